import PyProof.Rows.All
import Wide.All
import OpenK.AllK
import Wide.FinOn
import HandS.ForMost
import HandS.ForExc
import HandS.IsInst
import HandS.Conv
import HandS.ExcField
import HandS.CallLocal
import KE.KExcSuper
import KE.GoesEnum
import HandS.Codes
import HandS.TryOnly
import PySem.Challenge.RW_wholeline_k32_whole_good_periods
set_option Elab.async false
set_option linter.all false
set_option maxRecDepth 100000
set_option maxHeartbeats 4000000
/-! Good periods: the plain law, with no program in sight. -/
namespace GP
open PySem
/-- the signs of a period p in a quiet z: p, 2p, .. below z -/
def sgn (z p : Int) : List Int := (List.range (Builtin.Range.rangeSize p z p).toNat).map fun (i : Nat) => p + (i : Int) * p
theorem rs_eq {z p : Int} (hp : 0 < p) : Builtin.Range.rangeSize p z p = if p < z then (z - p - 1) / p + 1 else 0 := by
  unfold Builtin.Range.rangeSize
  rw [if_pos (show p > 0 from hp)]
theorem rs_nn {z p : Int} (hp : 0 < p) : 0 ≤ Builtin.Range.rangeSize p z p := by
  rw [rs_eq hp]
  by_cases h : p < z
  · rw [if_pos h]
    have := Int.ediv_nonneg (show 0 ≤ z - p - 1 by omega) (show 0 ≤ p by omega)
    omega
  · rw [if_neg h]
    exact Int.le_refl _
theorem sgn_len (z p : Int) : (sgn z p).length = (Builtin.Range.rangeSize p z p).toNat := by
  unfold sgn
  rw [List.length_map, List.length_range]
theorem sgn_get {z p : Int} {i : Nat} (h : i < (sgn z p).length) : (sgn z p)[i]? = some (p + (i : Int) * p) := by
  rw [sgn_len] at h
  unfold sgn
  rw [List.getElem?_map, List.getElem?_range h]
  rfl
theorem sgn_lt {z p : Int} (hp : 0 < p) {i : Nat} (h : i < (sgn z p).length) : p + (i : Int) * p < z := by
  rw [sgn_len, rs_eq hp] at h
  by_cases hz : p < z
  · rw [if_pos hz] at h
    have h1 : (i : Int) ≤ (z - p - 1) / p := by omega
    have h2 := Int.mul_le_of_le_ediv hp h1
    omega
  · rw [if_neg hz] at h
    exact absurd h (Nat.not_lt_zero _)
theorem sgn_small {z p : Int} (hp : 0 < p) (hz : z ≤ 24) : (sgn z p).length ≤ 24 := by
  by_cases h : (sgn z p).length ≤ 24
  · exact h
  · have h1 := sgn_lt (z := z) hp (i := 24) (by omega)
    have h2 : (24 : Int) * 1 ≤ 24 * p := Int.mul_le_mul_of_nonneg_left (by omega) (by decide)
    have h3 : ((24 : Nat) : Int) = 24 := rfl
    rw [h3] at h1
    omega

/-- the stops of signs -/
def stops (D T L Z : Int) (s : List Int) : List Int := (([-2 * D] : List Int) ++ s) ++ (List.range (L + 1).toNat).map fun (i : Nat) => Z + (0 + (i : Int)) * T
theorem stops_len (D T L Z : Int) (s : List Int) : (stops D T L Z s).length = 1 + s.length + (L + 1).toNat := by
  unfold stops
  rw [List.length_append, List.length_append, List.length_map, List.length_range]
  rfl
/-- the differences -/
def diffs (fs : List Int) (k n : Nat) : List Int := (List.range n).map fun (i : Nat) => fs.getD (i + k) 0 - fs.getD i 0
theorem diffs_len (fs : List Int) (k n : Nat) : (diffs fs k n).length = n := by
  unfold diffs
  rw [List.length_map, List.length_range]
theorem diffs_get (fs : List Int) {k n i : Nat} (h : i < n) : (diffs fs k n)[i]? = some (fs.getD (i + k) 0 - fs.getD i 0) := by
  unfold diffs
  rw [List.getElem?_map, List.getElem?_range h]
  rfl
theorem diffs_take (fs : List Int) {k n i : Nat} (h : i < n) : (diffs fs k n).take (i + 1) = (diffs fs k n).take i ++ [fs.getD (i + k) 0 - fs.getD i 0] := by
  rw [List.take_add_one, diffs_get fs h]
  rfl
/-- the greatest of two, as max gives it -/
def mx2 (a b : Int) : Int := if b > a then b else a
/-- the greatest of a list -/
def mx (ns : List Int) : Int := ns.foldl mx2 (ns.headD 0)
theorem mx_fold : ∀ (l : List Int) (a : Int), (l.foldl mx2 a = a ∨ l.foldl mx2 a ∈ l) ∧ a ≤ l.foldl mx2 a ∧ ∀ y ∈ l, y ≤ l.foldl mx2 a
  | [], a => ⟨.inl rfl, Int.le_refl _, fun y h => absurd h (by simp)⟩
  | x :: r, a => by
    obtain ⟨h1, h2, h3⟩ := mx_fold r (mx2 a x)
    have g1 : a ≤ mx2 a x ∧ x ≤ mx2 a x ∧ (mx2 a x = a ∨ mx2 a x = x) := by
      unfold mx2
      by_cases h : x > a
      · rw [if_pos h]
        exact ⟨by omega, Int.le_refl _, .inr rfl⟩
      · rw [if_neg h]
        exact ⟨Int.le_refl _, by omega, .inl rfl⟩
    rw [List.foldl_cons]
    refine ⟨?_, Int.le_trans g1.1 h2, fun y hy => ?_⟩
    · rcases h1 with h1 | h1
      · rcases g1.2.2 with g | g
        · exact .inl (h1.trans g)
        · exact .inr (by rw [h1, g]; exact List.mem_cons_self ..)
      · exact .inr (List.mem_cons_of_mem _ h1)
    · rcases List.mem_cons.mp hy with e | hy
      · rw [e]
        exact Int.le_trans g1.2.1 h2
      · exact h3 y hy
theorem mx_is {ns : List Int} {m : Int} (hm : m ∈ ns) (hb : ∀ y, y ∈ ns → y ≤ m) : m = mx ns := by
  cases ns with
  | nil => exact absurd hm (by simp)
  | cons x r =>
    obtain ⟨h1, h2, h3⟩ := mx_fold (x :: r) x
    have h4 : mx (x :: r) ∈ x :: r := by
      rcases h1 with h1 | h1
      · show (x :: r).foldl mx2 x ∈ x :: r
        rw [h1]
        exact List.mem_cons_self ..
      · exact h1
    exact Int.le_antisymm (h3 m hm) (hb _ h4)
/-- the quiet gap of a period -/
def gap (D T L Z p : Int) : Int := mx (diffs (stops D T L Z (sgn Z p)) (L + 1).toNat ((sgn Z p).length + 1))
theorem getD_of {l : List Int} {i : Nat} (h : i < l.length) : l[i]? = some (l.getD i 0) := by
  rw [List.getD_eq_getElem?_getD, List.getElem?_eq_getElem h]
  rfl
theorem stops_get {D T L Z : Int} {s : List Int} {i : Nat} (h : i < 1 + s.length + (L + 1).toNat) : (stops D T L Z s)[i]? = some ((stops D T L Z s).getD i 0) := getD_of (by rw [stops_len]; exact h)

/-! ### the good periods -/
def ps : List Int := (List.range 200).map fun (i : Nat) => 1 + (i : Int)
theorem ps_len : ps.length = 200 := by
  unfold ps
  rw [List.length_map, List.length_range]
theorem ps_get {i : Nat} (h : i < 200) : ps[i]? = some (1 + (i : Int)) := by
  unfold ps
  rw [List.getElem?_map, List.getElem?_range h]
  rfl
theorem ps_at {i : Nat} {p : Int} (h : ps[i]? = some p) : i < 200 ∧ p = 1 + (i : Int) := by
  have hi : i < 200 := by
    have := (List.getElem?_eq_some_iff.mp h).1
    rw [ps_len] at this
    exact this
  rw [ps_get hi] at h
  exact ⟨hi, (Option.some.inj h).symm⟩
theorem ps_mem {p : Int} (h : p ∈ ps) : 1 ≤ p ∧ p ≤ 200 := by
  obtain ⟨i, hi⟩ := List.mem_iff_getElem?.mp h
  obtain ⟨h1, h2⟩ := ps_at hi
  omega
theorem ps_up : ps.Pairwise (· < ·) := by
  unfold ps
  rw [List.pairwise_map]
  refine List.Pairwise.imp ?_ List.pairwise_lt_range
  intro a b h
  omega
def good (G : Int → Int) (lim : Int) : List Int := ps.filter fun p => decide (G p ≤ lim)
theorem good_take (G : Int → Int) (lim : Int) {i : Nat} {p : Int} (h : ps[i]? = some p) : (ps.take (i + 1)).filter (fun p => decide (G p ≤ lim)) = (ps.take i).filter (fun p => decide (G p ≤ lim)) ++ (if G p ≤ lim then [p] else []) := by
  rw [List.take_add_one, h]
  show ((ps.take i) ++ [p]).filter _ = _
  rw [List.filter_append]
  by_cases c : G p ≤ lim
  · rw [if_pos c, List.filter_cons, if_pos (by simpa using c)]
    rfl
  · rw [if_neg c, List.filter_cons, if_neg (by simpa using c)]
    rfl
theorem good_all (G : Int → Int) (lim : Int) : (ps.take 200).filter (fun p => decide (G p ≤ lim)) = good G lim := by
  unfold good
  rw [List.take_of_length_le (by rw [ps_len]; exact Nat.le_refl _)]
theorem filt_len (f : Int → Bool) (i : Nat) : ((ps.take i).filter f).length ≤ 200 := by
  refine Nat.le_trans (List.length_filter_le _ _) ?_
  rw [List.length_take, ps_len]
  exact Nat.min_le_right _ _
theorem good_len (G : Int → Int) (lim : Int) : (good G lim).length ≤ 200 := by
  rw [← good_all]
  exact filt_len _ _
theorem good_mem {G : Int → Int} {lim p : Int} (h : p ∈ good G lim) : 1 ≤ p ∧ p ≤ 200 := ps_mem (List.mem_filter.mp h).1
theorem good_up (G : Int → Int) (lim : Int) : (good G lim).Pairwise (· < ·) := List.Pairwise.filter _ ps_up
theorem good_congr {G G' : Int → Int} (lim : Int) (h : ∀ p, 1 ≤ p → p ≤ 200 → G p = G' p) : good G lim = good G' lim := by
  unfold good
  refine List.filter_congr fun p hp => ?_
  obtain ⟨h1, h2⟩ := ps_mem hp
  rw [h p h1 h2]

/-! ### the spans -/
def spS (ss : List (Int × Int)) (p : Int) : List (Int × Int) := match ss.getLast? with
  | some (a, b) => if b = p - 1 then ss.dropLast ++ [(a, p)] else ss ++ [(p, p)]
  | none => ss ++ [(p, p)]
def spans (l : List Int) : List (Int × Int) := l.foldl spS []
theorem spS_nil (p : Int) : spS [] p = [(p, p)] := rfl
theorem spS_join {ss : List (Int × Int)} {a b p : Int} (h : b = p - 1) : spS (ss ++ [(a, b)]) p = ss ++ [(a, p)] := by
  unfold spS
  rw [List.getLast?_concat]
  show (if b = p - 1 then (ss ++ [(a, b)]).dropLast ++ [(a, p)] else _) = _
  rw [if_pos h, List.dropLast_concat]
theorem spS_new {ss : List (Int × Int)} {a b p : Int} (h : ¬ b = p - 1) : spS (ss ++ [(a, b)]) p = (ss ++ [(a, b)]) ++ [(p, p)] := by
  unfold spS
  rw [List.getLast?_concat]
  show (if b = p - 1 then _ else (ss ++ [(a, b)]) ++ [(p, p)]) = _
  rw [if_neg h]
theorem spans_take {l : List Int} {i : Nat} {p : Int} (h : l[i]? = some p) : spans (l.take (i + 1)) = spS (spans (l.take i)) p := by
  unfold spans
  rw [List.take_add_one, h, List.foldl_append]
  rfl
theorem spS_len (ss : List (Int × Int)) (p : Int) : (spS ss p).length ≤ ss.length + 1 := by
  rcases List.eq_nil_or_concat ss with e | ⟨r, x, e⟩
  · subst e
    exact Nat.le_refl _
  · obtain ⟨a, b⟩ := x
    rw [List.concat_eq_append] at e
    subst e
    by_cases h : b = p - 1
    · rw [spS_join h]
      simp
    · rw [spS_new h]
      simp
theorem spans_len : ∀ (l : List Int) (i : Nat), (spans (l.take i)).length ≤ i
  | l, 0 => by
    rw [List.take_zero]
    exact Nat.le_refl _
  | l, i + 1 => by
    cases h : l[i]? with
    | none =>
      have e : l.take (i + 1) = l.take i := by rw [List.take_add_one, h]; simp
      rw [e]
      exact Nat.le_succ_of_le (spans_len l i)
    | some p =>
      rw [spans_take h]
      exact Nat.le_trans (spS_len _ _) (Nat.succ_le_succ (spans_len l i))
theorem last_split (ss : List (Int × Int)) : ss = [] ∨ ∃ r a b, ss = r ++ [(a, b)] := by
  rcases List.eq_nil_or_concat ss with e | ⟨r, x, e⟩
  · exact .inl e
  · obtain ⟨a, b⟩ := x
    rw [List.concat_eq_append] at e
    exact .inr ⟨r, a, b, e⟩

/-! ### the fewest signs -/
theorem div_mono {a p q : Int} (ha : 0 ≤ a) (hp : 0 < p) (hq : p ≤ q) : a / q ≤ a / p := by
  have h0 : 0 < q := by omega
  refine Int.le_ediv_of_mul_le hp ?_
  have h1 : a / q * q ≤ a := Int.ediv_mul_le a (by omega)
  have h2 : a / q * p ≤ a / q * q := Int.mul_le_mul_of_nonneg_left hq (Int.ediv_nonneg ha (by omega))
  omega
theorem up_le {l : List Int} (h : l.Pairwise (· < ·)) {i j : Nat} {x y : Int} (hi : l[i]? = some x) (hj : l[j]? = some y) (hij : i ≤ j) : x ≤ y := by
  obtain ⟨a1, e1⟩ := List.getElem?_eq_some_iff.mp hi
  obtain ⟨a2, e2⟩ := List.getElem?_eq_some_iff.mp hj
  rcases Nat.lt_or_ge i j with c | c
  · have := List.pairwise_iff_getElem.mp h i j a1 a2 c
    omega
  · have e : i = j := Nat.le_antisymm hij c
    subst e
    rw [← e1, ← e2]
    exact Int.le_refl _
/-- the last one is the greatest -/
theorem up_last {l : List Int} (h : l.Pairwise (· < ·)) {q : Int} (hq : l[l.length - 1]? = some q) {x : Int} (hx : x ∈ l) : x ≤ q := by
  obtain ⟨i, hi⟩ := List.mem_iff_getElem?.mp hx
  have := (List.getElem?_eq_some_iff.mp hi).1
  exact up_le h hi hq (by omega)
/-- the least count is the last one's -/
theorem least_is {l : List Int} (h : l.Pairwise (· < ·)) (hp : ∀ x ∈ l, 1 ≤ x) {a q m : Int} (ha : 0 ≤ a) (hq : l[l.length - 1]? = some q) (hm : m ∈ l.map fun p => a / p) (hb : ∀ y, y ∈ (l.map fun p => a / p) → m ≤ y) : m = a / q := by
  obtain ⟨p, hpl, e⟩ := List.mem_map.mp hm
  have hql : q ∈ l := List.mem_of_getElem? hq
  have h1 := hb (a / q) (List.mem_map.mpr ⟨q, hql, rfl⟩)
  have h2 := up_last h hq hpl
  have h3 := div_mono ha (show 0 < p by have := hp p hpl; omega) h2
  have e' : a / p = m := e
  omega
/-- of those with the least count the greatest is the last one -/
theorem most_is {l : List Int} (h : l.Pairwise (· < ·)) {a q m : Int} (hq : l[l.length - 1]? = some q) (hm : m ∈ l.filter fun p => decide (a / p = a / q)) (hb : ∀ y, y ∈ (l.filter fun p => decide (a / p = a / q)) → y ≤ m) : m = q := by
  have h1 := up_last h hq (List.mem_filter.mp hm).1
  have h2 := hb q (List.mem_filter.mpr ⟨List.mem_of_getElem? hq, by simp⟩)
  omega
theorem most_ne {l : List Int} {a q : Int} (hq : l[l.length - 1]? = some q) : 0 < (l.filter fun p => decide (a / p = a / q)).length :=
  List.length_pos_of_mem (List.mem_filter.mpr ⟨List.mem_of_getElem? hq, by simp⟩)
theorem filt_take {l : List Int} (f : Int → Bool) {i : Nat} {p : Int} (h : l[i]? = some p) : (l.take (i + 1)).filter f = (l.take i).filter f ++ (if f p = true then [p] else []) := by
  rw [List.take_add_one, h]
  show ((l.take i) ++ [p]).filter _ = _
  rw [List.filter_append]
  cases c : f p with
  | true =>
    rw [if_pos rfl, List.filter_cons, if_pos c]
    rfl
  | false =>
    rw [if_neg Bool.false_ne_true, List.filter_cons, if_neg (by rw [c]; exact Bool.false_ne_true)]
    rfl
theorem last_some {l : List Int} (h : l ≠ []) : ∃ q, l[l.length - 1]? = some q := by
  have := List.length_pos_iff.mpr h
  exact ⟨l[l.length - 1], List.getElem?_eq_getElem (by omega)⟩
end GP
/-! Good periods: the text by places, what the top has written, rules that the layer lacks. -/
namespace GP
open PySem PySem.Spec PyProof.Rows L2
/-! ### the text -/
def top (i : Nat) : Stmt := PySem.Challenge.pw_wholeline_k32_whole_good_periods.main.body.getD i (.Pass ⟨0, 0, 0, 0⟩)
abbrev sInteger : Stmt := top 1
abbrev sBetween : Stmt := top 2
abbrev sIsList : Stmt := top 3
abbrev sNumI : Stmt := inClass (top 7) 0
abbrev sPart : Stmt := top 15
abbrev sLullI : Stmt := inClass (top 16) 0
abbrev sChecked : Stmt := top 18
abbrev sStops : Stmt := top 19
abbrev sGap : Stmt := top 20
abbrev sSigns : Stmt := top 21
abbrev sLimit : Stmt := top 24
abbrev sGoodL : Stmt := top 25
abbrev sGoodP : Stmt := top 26
abbrev sFewest : Stmt := top 27
abbrev sLPool : Stmt := top 29
abbrev sLTake : Stmt := top 30
abbrev sLOne : Stmt := top 31
abbrev sLLull : Stmt := top 32
abbrev sLStops : Stmt := top 33
abbrev sLGap : Stmt := top 34
abbrev sLTold : Stmt := top 35
abbrev sLSpans : Stmt := top 36
abbrev sLRight : Stmt := top 37
abbrev sLaw : Stmt := top 38

/-! ### the built-in names -/
theorem bt_int : bootBuiltins "int" = some (.type "int") := by decide +kernel
theorem bt_bool : bootBuiltins "bool" = some (.type "bool") := by decide +kernel
theorem bt_list : bootBuiltins "list" = some (.type "list") := by decide +kernel
theorem bt_tuple : bootBuiltins "tuple" = some (.type "tuple") := by decide +kernel
theorem bt_range : bootBuiltins "range" = some (.type "range") := by decide +kernel
theorem bt_enum : bootBuiltins "enumerate" = some (.type "enumerate") := by decide +kernel
theorem bt_len : bootBuiltins "len" = some (.builtin "len") := by decide +kernel
theorem bt_max : bootBuiltins "max" = some (.builtin "max") := by decide +kernel
theorem bt_min : bootBuiltins "min" = some (.builtin "min") := by decide +kernel
theorem bt_isi : bootBuiltins "isinstance" = some (.builtin "isinstance") := by decide +kernel
/-- the module binds none of them -/
structure Blt (mg : Str → Option Value) : Prop where
  int : mg "int" = none
  bool : mg "bool" = none
  list : mg "list" = none
  tuple : mg "tuple" = none
  range : mg "range" = none
  enum : mg "enumerate" = none
  len : mg "len" = none
  max : mg "max" = none
  min : mg "min" = none
  isi : mg "isinstance" = none

/-! ### heaps -/
theorem same_upd {H : Hp} {p : Addr} {o : HO} (h : H p = none) : Same H (upd H p o) := fun b x e => by
  rw [upd_ne (ne_of_none e h)]
  exact e
theorem Same.tup {K : PySem.W.Frag} {H H' : Hp} {a : Addr} {xs : List V} (e : Same H H') (h : SqT K H a xs) : SqT K H' a xs := by
  rcases h with (h | ⟨o, h⟩) | h
  · exact .inl (.inl (e _ _ h))
  · exact .inl (.inr ⟨o, e _ _ h⟩)
  · exact .inr h
theorem ltLine {n : Nat} (h : n ≤ 1000000) : n < sizeLine := by
  rw [sizeLine_eq]
  omega
theorem leLine {n : Nat} (h : n ≤ 1000000) : n ≤ sizeLine := Nat.le_of_lt (ltLine h)
/-- all that was tracked, but for the list at p, is as it was -/
def SameBut (p : Addr) (H H' : Hp) : Prop := ∀ b o, H b = some o → b ≠ p → H' b = some o

/-! ### range with a step as an argument -/
section
variable {X : Cx}
def PRgC (X : Cx) (e : Expr) (t : L2.St → Hp → (Int → Int → Int → Hp → Prop) → Prop) : Prop :=
  ∀ (pins : List (Addr × Obj)) (s : Shared) (σ : L2.St) (H : Hp) (Q : Int → Int → Int → Hp → Prop), Inv X pins σ H s → t σ H Q →
    wpAny (model X.prog X.w) X.A (eval e X.env) (fun x s' => ∃ r a b c t u v H', x = .ref r ∧ IsRange s'.heap r a b c t u v ∧ Inv X pins σ H' s' ∧ Q a b c H') X.xe s
def tRg3 (ta : TA) : L2.St → Hp → (Int → Int → Int → Hp → Prop) → Prop := fun σ H Q => ta σ H fun vs H1 => ∃ i j k, vs = [.int i, .int j, .int k] ∧ (k ≠ 0 ∧ k.natAbs < 1073741824) ∧ Q i j k H1
theorem prg_3 {a b c : Expr} {ta : TA} {p pos : Pos} (hg : Gl X "range") (hm : X.mg "range" = none) (ha : PA X [a, b, c] ta)
    (hs : starEach [a, b, c] X.env = (false, eval a X.env) :: starEach [b, c] X.env := by rfl) (hpl : (backTo pos (starEach [b, c] X.env)).any (·.1) = false := by rfl) : PRgC X (.Call (.Name "range" p) [a, b, c] [] pos) (tRg3 ta) := by
  intro pins s σ H Q I h
  refine Call_ (ld_blt I hg hm bt_range (PyProof.Rows.callWith_type1 (thn (ha.run pos pins s σ H _ I h) fun us s1 ⟨vs, H1, I1, r1, q1⟩ => ?_) hs hpl))
  obtain ⟨i, j, k, e, ⟨c0, c1⟩, q⟩ := q1
  subst e
  cases r1 with
  | cons r rr =>
    cases rr with
    | cons r' rr =>
      cases rr with
      | cons r'' rr =>
        cases rr
        obtain ⟨t, rfl⟩ := r
        obtain ⟨t', rfl⟩ := r'
        obtain ⟨t'', rfl⟩ := r''
        exact call_range_3 c0 ⟨_, i, j, k, _, _, _, H1, rfl, IsRange.new _ _ _ _ _ _ _, I1.kept (t' := s1.toks) fun b u e => Heap.get?_push_of_some _ e, q⟩ (.inl (PyProof.noPylong_small c1))
/-- the ints a, a + c, .. (n of them) -/
def rgVC (a c : Int) (n : Nat) : List V := (List.range n).map fun (i : Nat) => V.int (a + (i : Int) * c)
theorem rgVC_length (a c : Int) (n : Nat) : (rgVC a c n).length = n := by unfold rgVC; rw [List.length_map, List.length_range]
theorem vals_rgC {a c : Int} {n : Nat} {acc : Array Value} (h : ItemsOf (fun i v => ∃ t, v = .int (a + i * c) t) acc n) : Vals (rgVC a c n) acc.toList := by
  have e : acc.toList.length = n := by rw [Array.length_toList]; exact h.1
  unfold rgVC
  rw [← e]
  refine vals_of_get acc.toList _ fun j u hj => ?_
  obtain ⟨t, rfl⟩ := h.2 j u (by rw [← hj, Array.getElem?_toList])
  exact ⟨t, rfl⟩
/-- small bounds, n items -/
def RgCOk (a b c : Int) (n : Nat) : Prop := Builtin.Range.small a b c = true ∧ Builtin.Range.rangeSize a b c = (n : Int) ∧ n ≤ 2 ^ 24
variable {e : Expr} {te : L2.St → Hp → (Int → Int → Int → Hp → Prop) → Prop}
def tLstRgC (te : L2.St → Hp → (Int → Int → Int → Hp → Prop) → Prop) : TE := fun σ H Q => te σ H fun a b c H1 => ∃ n, RgCOk a b c n ∧ ∀ q, H1 q = none → Q (.ref q) (upd H1 q (.lst (rgVC a c n)))
def tTupRgC (te : L2.St → Hp → (Int → Int → Int → Hp → Prop) → Prop) : TE := fun σ H Q => te σ H fun a b c H1 => ∃ n, RgCOk a b c n ∧ ∀ q, H1 q = none → Q (.ref q) (upd H1 q (.tup (rgVC a c n)))
theorem pe_listRgC {p pos : Pos} (hc : X.calm = true) (hg : Gl X "list") (hm : X.mg "list" = none) (he : PRgC X e te) (na : starEach [e] X.env = (false, eval e X.env) :: starEach [] X.env := by rfl) : PE X (.Call (.Name "list" p) [e] [] pos) (tLstRgC te) := by
  refine ⟨fun pins s σ H Q I h => ?_⟩
  refine Call_ (ld_blt I hg hm bt_list (PyProof.Rows.callWith_type1 (args_cons (thn (he pins s σ H _ I h) fun x s1 ⟨r, a, b, c, t, u, v, H1, ex, hr, I1, n, ok, q⟩ => args_nil ?_) na) na))
  subst ex
  obtain ⟨b1, b2, b3⟩ := ok
  refine call_list_range (n := n) (I1.ok.hd hc) hr b1 b2 b3 fun h' tk acc c' hk e' hi => ?_
  refine ⟨.ref s1.heap.objs.size, upd H1 s1.heap.objs.size (.lst (rgVC a c n)), I1.laid hk (Nat.le_refl _) (show ObjOk X.prog X.w _ _ _ (.lst (rgVC a c n)) from ⟨?_, acc.toList, c', vals_rgC hi, ?_⟩), rfl, q _ (I1.hok.fresh (Nat.le_refl _))⟩
  · rw [rgVC_length, sizeLine_eq]; omega
  · rw [Array.toArray_toList]; exact e'
theorem pe_tupRgC {p pos : Pos} (hc : X.calm = true) (hg : Gl X "tuple") (hm : X.mg "tuple" = none) (he : PRgC X e te) (na : starEach [e] X.env = (false, eval e X.env) :: starEach [] X.env := by rfl) : PE X (.Call (.Name "tuple" p) [e] [] pos) (tTupRgC te) := by
  refine ⟨fun pins s σ H Q I h => ?_⟩
  refine Call_ (ld_blt I hg hm bt_tuple (PyProof.Rows.callWith_type1 (args_cons (thn (he pins s σ H _ I h) fun x s1 ⟨r, a, b, c, t, u, v, H1, ex, hr, I1, n, ok, q⟩ => args_nil ?_) na) na))
  subst ex
  obtain ⟨b1, b2, b3⟩ := ok
  refine call_tuple_range (n := n) (I1.ok.hd hc) hr b1 b2 b3 fun h' tk acc hk hi => ?_
  have I2 : Inv X pins σ H1 { s1 with heap := h', toks := tk } := I1.kept hk
  refine ⟨.ref h'.objs.size, upd H1 h'.objs.size (.tup (rgVC a c n)), I2.laid (t' := tk) (fun c o e => Heap.get?_push_of_some _ e) (Nat.le_refl _) (show ObjOk X.prog X.w _ _ _ (.tup (rgVC a c n)) from ⟨?_, acc.toList, vals_rgC hi, ?_⟩), rfl, q _ (I2.hok.fresh (Nat.le_refl _))⟩
  · rw [rgVC_length, sizeLine_eq]; omega
  · rw [Array.toArray_toList]; exact IsTup.new _ _
end
theorem rgVC_sgn (z p : Int) : rgVC p p (Builtin.Range.rangeSize p z p).toNat = (sgn z p).map V.int := by
  unfold rgVC sgn
  rw [List.map_map]
  rfl

/-! ### xs.extend(a tuple) -/
section
variable {X : Cx}
def rExtendT : V → List V → Hp → VK → Prop := fun x vs H Q => ∃ l b xs zs, x = .ref l ∧ vs = [.ref b] ∧ H l = some (.lst xs) ∧ H b = some (.tup zs) ∧ xs.length + zs.length ≤ sizeLine ∧ Q .non (upd H l (.lst (xs ++ zs)))
theorem tup_obj {pins : List (Addr × Obj)} {σ : L2.St} {H : Hp} {s : Shared} {b : Addr} {zs : List V} (I : Inv X pins σ H s) (h : H b = some (.tup zs)) :
    zs.length ≤ sizeLine ∧ ∃ (its : List Value) (dct : Option Addr) (n : Nat) (sl : Array (Option Value)), Vals zs its ∧ s.heap.get? b = some { cls := .type "tuple", dict := dct, data := .seq its.toArray n, slots := sl } := by
  obtain ⟨z, its, r, ⟨c, dct, dt, sl⟩, ho, hc, n, hd⟩ := I.hok b _ h
  replace hc : c = .type "tuple" := hc
  replace hd : dt = .seq its.toArray n := hd
  subst hc hd
  exact ⟨z, its, dct, n, sl, r, ho⟩
open PySem.AutoSeq1 in
theorem meets_extendT (l : Addr) (items : Array Value) (n : Nat) (b : Addr) (items2 : Array Value) (n2 : Nat) (dct : Option Addr) (sl : Array (Option Value)) (hs0 : ¬(!items.isEmpty && Builtin.List.listTooLong (items.size + items2.size)) = true) (hs1 : items.size ≤ sizeLine) (hs2 : items.size + items2.size ≤ sizeLine + 1) :
    Meets (Builtin.«list.extend» ⟨[.ref l, .ref b], []⟩) (fun _ R s => s.heap.get? l = some { cls := .type "list", dict := none, data := .seq items n, slots := #[] } ∧ s.heap.get? b = some { cls := .type "tuple", dict := dct, data := .seq items2 n2, slots := sl } ∧ R (.ok (.ret Value.none)) { s with heap := s.heap.update l (Obj.mapSeq fun x => x ++ items2), toks := s.toks }) :=
  .of_wp fun prog w A R s h => by
    obtain ⟨hp, g, d, tk, os⟩ := s; obtain ⟨hl, hb, h⟩ := h; have f1 := idx_int; have f2 := AutoSeq1.sub_tuple_tuple; have f3 := AutoSeq1.sub_list_list; have f4 := AutoSeq1.sub_tuple_list; have f5 := AutoSeq1.sub_list_tuple;
    have hz' : (items ++ items2).size ≤ sizeLine + 1 := by rw [Array.size_append]; exact hs2
    wp_walk using (wpAny_updateSeq hl rfl (hz := hs1) (_hz' := hz')), wpAny_loadPart' hl, wpAny_loadPart' hb; exact ⟨_, rfl, h⟩
theorem mt_extendT : MtM X "list.extend" rExtendT := by
  intro pins s σ H x vs v us Q I rx rv h
  obtain ⟨l, b, xs, zs, rfl, rfl, hH, hB, hz, q⟩ := h
  cases rx
  obtain ⟨u, rfl, ru⟩ := rv.one
  cases ru
  obtain ⟨z, its, n, r, hl, e⟩ := I.lstM hH
  obtain ⟨z2, its2, dct, n2, sl, r2, e2⟩ := tup_obj I hB
  have hl2 := r2.length
  have hsz : its.toArray.size + its2.toArray.size ≤ sizeLine := by rw [List.size_toArray, List.size_toArray]; omega
  have hlong : ¬ (!its.toArray.isEmpty && Builtin.List.listTooLong (its.toArray.size + its2.toArray.size)) = true := by
    rw [notLongL hsz, Bool.and_false]
    exact Bool.false_ne_true
  refine call_meets F.slot_list_extend ⟨_, e, rfl⟩ F.entry_list_extend (F.args_list_extend_2 _ _)
    (meets_extendT l its.toArray n b its2.toArray n2 dct sl hlong (by rw [List.size_toArray]; omega) (by omega)) ⟨e, e2, ?_⟩
  refine ⟨.non, _, I.lset (its' := its ++ its2) hH e (by simp) (r.append r2) ?_, rfl, q⟩
  rw [List.length_append]
  omega
end

/-! ### enumerate(a tuple) -/
set_option maxHeartbeats 4000000 in
theorem meets_enum_newB {v : Value} {o : Obj} {H : Heap → Prop} (B : Begins v o H) :
    Meets (Builtin.«enumerate.__new__» ⟨[.type "enumerate", v], []⟩) (fun _ R s => H s.heap ∧
      R (.ok (.ret (.ref (s.heap.push o).objs.size))) { s with heap := (s.heap.push o).push { cls := .type "enumerate", data := .fields #[.none, .bool false, .ref s.heap.objs.size, rawInt 0, .none, .none] } }) :=
  .of_wp fun prog w A R s h => by
    obtain ⟨hp, g, d, tk, os⟩ := s; obtain ⟨h1, h⟩ := h
    have hsub := sub_enumerate
    have q1 : ∀ {A' : Around} {E : Value → Shared → Prop} {Q : Value → Shared → Prop}, Q (.ref hp.objs.size) ⟨hp.push o, g, d, tk, os⟩ → wpAny (model prog w) A' (pyIter v) Q E ⟨hp, g, d, tk, os⟩ :=
      fun q => B.iter prog w _ _ ⟨hp, g, d, tk, os⟩ _ h1 q
    wp_walk using q1
    refine wpAny_stack_any fun st => wpAny_pure ?_
    split
    · rename_i c _ _ _ _ _
      cases (c == Value.type "enumerate")
      · wp_walk using q1
        exact ⟨_, rfl, h⟩
      · wp_walk using q1
        exact ⟨_, rfl, h⟩
    · wp_walk using q1
      exact ⟨_, rfl, h⟩
section
variable {prog : Program} {w : World} {A : Around} {E : Value → Shared → Prop} {s : Shared}
theorem enum1_begins {v : Value} {o : Obj} {H : Heap → Prop} {Q : Value → Shared → Prop} (B : Begins v o H) (h1 : H s.heap)
    (h : ∀ h', IsEnum h' (s.heap.objs.size + 1) s.heap.objs.size 0 .none → h'.get? s.heap.objs.size = some o → h'.objs.size = s.heap.objs.size + 2 →
      (∀ b o, s.heap.get? b = some o → h'.get? b = some o) → Q (.ref (s.heap.objs.size + 1)) { s with heap := h' }) :
    wpAny (model prog w) A (call (.type "enumerate") [v]) Q E s := by
  refine callType_new F.called_enumerate (by decide) (F.typeCall_enumerate_1 _) (F.newCall_enumerate_1 _) (fun obj => F.args_object_init_2 obj _) F.entry_enumerate_new
    (meets_enum_newB B) ⟨h1, ?_⟩
  have hz : (s.heap.push o).objs.size = s.heap.objs.size + 1 := Heap.size_push ..
  show _ ∧ _
  rw [hz]
  have he : IsEnum ((s.heap.push o).push { cls := .type "enumerate", data := .fields #[.none, .bool false, .ref s.heap.objs.size, rawInt 0, .none, .none] }) (s.heap.objs.size + 1) s.heap.objs.size 0 .none := by
    have := Heap.get?_push_size (s.heap.push o) (o := { cls := .type "enumerate", data := .fields #[.none, .bool false, .ref s.heap.objs.size, rawInt 0, .none, .none] }) rfl
    rw [hz] at this; exact this
  refine ⟨⟨_, he, rfl⟩, h _ he (Heap.get?_push_of_some _ (Heap.get?_push_size _ B.free)) (by rw [Heap.size_push, hz]) fun b o x => Heap.get?_push_of_some _ (Heap.get?_push_of_some _ x)⟩
end
/-- the tuple at a, each item in a new pair -/
def IteT (K : PySem.W.Frag) (a : Addr) : It :=
  ⟨fun i H => ∃ (xs : List V) (x : V), SqT K H a xs ∧ xs[i]? = some x, fun i H v H' => ∃ T x, v = .ref T ∧ H T = none ∧ H' = upd H T (.tup [.int (i : Nat), x]) ∧ ∀ xs, SqT K H a xs → xs[i]? = some x, fun i H => ∃ xs : List V, SqT K H a xs ∧ xs.length ≤ i⟩
theorem turn_enumT {P : Program} {w : World} {K : PySem.W.Frag} {elts : List Expr} {kk : Nat} {tpos : Pos} (a e it : Addr) (items : Array Value) (hei : e ≠ it) (hea : e ≠ a) (hai : a ≠ it) :
    Turn P w K (.Tuple elts kk tpos) (IteT K a) [e, it] e (fun i h => (∃ old, IsEnum h e it ((i : Nat) : Int) old) ∧ h.IsTupleIter it a i) where
  mem := by simp
  obj := fun i h st b hb => by
    obtain ⟨⟨old, he⟩, ⟨o, ho, hc, hd⟩⟩ := st
    have e' : b = e ∨ b = it := by simpa using hb
    rcases e' with z | z
    · rw [z]; exact ⟨_, he, fun v q => nomatch q⟩
    · rw [z]; exact ⟨o, ho, fun v q => by rw [hd] at q; cases q⟩
  keep := fun i h h' st k => let ⟨⟨old, he⟩, hi⟩ := st; ⟨⟨old, k e (by simp) _ he⟩, hi.at fun o q => k it (by simp) o q⟩
  item := by
    intro X hP hw hK hc i pins s σ H E I hf st hg
    subst hP hw hK
    obtain ⟨⟨old, he⟩, hit⟩ := st
    obtain ⟨xs, x, hq, hx⟩ := hg
    obtain ⟨its, rv, p, hz⟩ := I.tuple hq
    obtain ⟨u, hu, ru⟩ := rv.get hx
    have hlt : i < its.toArray.size := by
      rw [List.size_toArray]
      exact (List.getElem?_eq_some_iff.mp hu).1
    have hel : e < s.heap.objs.size := Heap.lt_size he
    have hil : it < s.heap.objs.size := by obtain ⟨_, q, _⟩ := hit; exact Heap.lt_size q
    have D := Draws.tuple (prog := X.prog) (w := X.w) (A := X.A.in1) (I.ok.hd hc) it a hai its.toArray
    refine wpAny_pyNext_enum_itemD D he ⟨hit, show s.heap.IsTuple a its.toArray from p⟩ hlt hei (by simp only [List.mem_cons, List.not_mem_nil, or_false, not_or]; exact ⟨hei, hea⟩) fun x' h' tk hx' ho st' hT hsz hk => ?_
    have ex : x' = u := by
      have e1 : its.toArray[i]? = some x' := hx'
      rw [List.getElem?_toArray, hu] at e1
      exact (Option.some.inj e1).symm
    subst ex
    refine ⟨_, rfl, wpAny_letOwnedTupleGo_enum (s := { s with heap := h', toks := tk + 1 }) ho fun h'' he' sb => ?_⟩
    have hT2 : h''.get? s.heap.objs.size = some { cls := .type "tuple", data := .seq #[.int i tk, x'] } := (sb.2 _ (Nat.ne_of_gt hel)).trans hT
    have new : ObjOk X.prog X.w (upd H s.heap.objs.size (.tup [.int (i : Nat), x])) h'' s.heap.objs.size (.tup [.int (i : Nat), x]) :=
      ⟨by show 2 ≤ sizeLine; decide, [.int i tk, x'], .cons ⟨_, rfl⟩ (.cons ru .nil), ⟨_, hT2, rfl, _, rfl⟩⟩
    have I1 : Inv X pins σ (upd H s.heap.objs.size (.tup [.int (i : Nat), x])) { s with heap := h'', toks := tk + 1 } :=
      I.turnedNew (ch := [e, it]) (fun b ob hb q => (sb.2 b (fun z => hb (by simp [z]))).trans (hk b ob (fun z => hb (by simp [z])) (fun z => hb (by simp [z])) q)) hf (Nat.le_refl _) new
    refine ⟨.ref s.heap.objs.size, _, I1, rfl, ⟨_, x, rfl, I.hok.fresh (Nat.le_refl _), rfl, fun ys hy => by rw [I.tuple_inj hy hq]; exact hx⟩, ⟨⟨x', ?_⟩, st'.1.at fun o q => (sb.2 it (Ne.symm hei)).trans q⟩, fun b hb => ?_⟩
    · have e1 : ((i + 1 : Nat) : Int) = (i : Int) + 1 := by omega
      rw [e1]; exact he'
    · have hb' : b < s.heap.objs.size := by
        have e' : b = e ∨ b = it := by simpa using hb
        rcases e' with z | z
        · rw [z]; exact hel
        · rw [z]; exact hil
      rw [upd_ne (Nat.ne_of_lt hb')]
      exact (hf b hb).1
  done := by
    intro X hP hw hK hc i pins s σ H E I hf st hg
    subst hP hw hK
    obtain ⟨⟨old, he⟩, hit⟩ := st
    obtain ⟨xs, hq, hx⟩ := hg
    obtain ⟨its, rv, p, hz⟩ := I.tuple hq
    obtain ⟨f0, f1, f2, f3, f4, f5⟩ := hf it (by simp)
    have hl := rv.length
    have hT : s.TypeIs (.ref e) "enumerate" := ⟨_, he, rfl⟩
    unfold pyNext
    refine wpAny_bind (wpAny_attempt (wpAny_callSpecial?_slot (name := PySem.Str.ofString "__next__") hT F.slot_enumerate_next
      (wpAny_call_entry F.slot_enumerate_next hT F.entry_enumerate_next ?_ (F.args_enumerate_next_1 _))))
    show wpAny _ _ (field (.ref e) 2 >>= _) _ _ _
    refine wpAny_bind (wpAny_field he rfl (x := .ref it) rfl ?_)
    refine wpAny_bind (wpAny_nextOf_tuple_end (I.ok.hd hc) hit (show s.heap.IsTuple a its.toArray from p) (by simp; omega) fun h' x he' hx' => ?_)
    obtain ⟨o, ho, hc'⟩ := hx'
    refine wpAny_bind (wpAny_isInstance (T := "StopIteration") (b := true) ⟨o, ho, hc'⟩ isSubtype_stop ?_)
    exact wpAny_pure ⟨rfl, I.turned (t' := s.toks) (fun b o hb q => he' b o hb q) f0 f1 f3 f4 f5⟩
  self := fun A i s Q E st h => let ⟨⟨_, he⟩, _⟩ := st; wpAny_pyIter_enum he h
def iEnumT (K : PySem.W.Frag) (ta : TA) : TI := fun σ H R => ta σ H fun vs H1 => ∃ a xs, vs = [.ref a] ∧ SqT K H1 a xs ∧ R (IteT K a) H1
theorem pi_enumT {X : Cx} {e : Expr} {ta : TA} {p pos tpos : Pos} {elts : List Expr} {kk : Nat} (hg : Gl X "enumerate") (hm : X.mg "enumerate" = none) (ha : PA X [e] ta) (hs : starEach [e] X.env = [(false, eval e X.env)] := by rfl) :
    PI X (.Tuple elts kk tpos) (.Call (.Name "enumerate" p) [e] [] pos) (iEnumT X.K ta) := by
  refine ⟨fun pins s σ H R I h => ?_⟩
  refine Call_ (ld_blt I hg hm bt_enum (PyProof.Rows.callWith_type1 (thn (ha.run pos pins s σ H _ I h) fun us s1 ⟨vs, H1, I1, r1, q1⟩ => ?_) hs rfl))
  obtain ⟨a, xs, ex, hq, q⟩ := q1
  subst ex
  cases r1 with
  | cons r rr =>
    cases rr
    cases r
    obtain ⟨its, rv, p', hz⟩ := I1.tuple hq
    have hal : a < s1.heap.objs.size := by obtain ⟨o, ho, _⟩ := p'; exact Heap.lt_size ho
    refine enum1_begins (begins_tuple a its.toArray) (show s1.heap.IsTuple a its.toArray from p') fun h' he hit hsz hk => wpAny_pyIter_enum he ?_
    have I2 : Inv X pins σ H1 { s1 with heap := h' } := I1.kept (t' := s1.toks) hk
    refine ⟨s1.heap.objs.size + 1, [s1.heap.objs.size + 1, s1.heap.objs.size], _, _, H1, rfl, I2, turn_enumT a (s1.heap.objs.size + 1) s1.heap.objs.size its.toArray (Nat.succ_ne_self _) (Nat.ne_of_gt (Nat.lt_succ_of_lt hal)) (Nat.ne_of_lt hal), ⟨⟨.none, he⟩, ⟨_, hit, rfl, rfl⟩⟩, fun b hb => ?_, q⟩
    have e' : b = s1.heap.objs.size + 1 ∨ b = s1.heap.objs.size := by simpa using hb
    have hle : s1.heap.objs.size ≤ b := by
      rcases e' with z | z
      · rw [z]; exact Nat.le_add_right _ _
      · rw [z]; exact Nat.le_refl _
    exact I1.fpOk hle (I1.hok.fresh hle)
/-- the turns of enumerate over a tuple that stands -/
theorem for_enumT {K : PySem.W.Frag} {a : Addr} {xs : List V} {g : TG} {tb : TS} {D : Ends} {σ : L2.St} {H : Hp} (Pv : Nat → L2.St → Hp → Prop) (h0 : Pv 0 σ H) (hl : ∀ i σ H, i ≤ xs.length → Pv i σ H → SqT K H a xs)
    (hs : ∀ i x σ H T, xs[i]? = some x → Pv i σ H → H T = none → g (.ref T) σ (upd H T (.tup [.int (i : Nat), x])) fun σ2 H2 => tb { D with nx := Pv (i + 1), ct := Pv (i + 1), bk := D.nx } σ2 H2) (hd : ∀ σ H, Pv xs.length σ H → D.nx σ H) :
    ∃ W : Nat → Nat → L2.St → Hp → Prop, (∃ m, W 0 m σ H) ∧ ∀ i m σ H, W i m σ H → ((IteT K a).stop i H ∧ D.nx σ H) ∨ ((IteT K a).go i H ∧ ∃ Nx : L2.St → Hp → Prop, (∀ σ' H', Nx σ' H' → ∃ m', m' < m ∧ W (i + 1) m' σ' H') ∧
      ∀ x H', (IteT K a).yld i H x H' → g x σ H' fun σ2 H2 => tb { D with nx := Nx, ct := Nx, bk := D.nx } σ2 H2) := by
  refine ⟨fun i m σ H => m = xs.length - i ∧ i ≤ xs.length ∧ Pv i σ H, ⟨xs.length, by simp, Nat.zero_le _, h0⟩, ?_⟩
  rintro i m σ H ⟨rfl, hi, p⟩
  have q := hl i σ H hi p
  by_cases hlt : i < xs.length
  · refine .inr ⟨⟨xs, xs[i], q, by simp [hlt]⟩, Pv (i + 1), fun σ' H' p' => ⟨xs.length - (i + 1), by omega, rfl, hlt, p'⟩, fun x H' y => ?_⟩
    obtain ⟨T, x', rfl, nT, rfl, y⟩ := y
    exact hs i x' σ H T (y xs q) p nT
  · have e : i = xs.length := by omega
    subst e
    exact .inl ⟨⟨xs, q, Nat.le_refl _⟩, hd σ H p⟩
end GP
/-! Good periods: a def of the text under its name, called. -/
namespace GP
open PySem PySem.Spec PyProof.Rows L2
/-- a def of the module under its name, as it stands behind the top -/
structure Df (K : PySem.W.Frag) (mg : Str → Option Value) (x : Str) (st : Stmt) (ps : List Str) (f : Addr) (fd : FuncData) : Prop where
  fn : Fun K x x st f fd
  g : mg x = some (.ref f)
  b : Binds K fd ps []
/-- .. that keeps a promise -/
structure Cl (P : Program) (w : World) (K : PySem.W.Frag) (mg : Str → Option Value) (base : Heap) (CX : CXT) (k : Nat) (x : Str) (ps : List Str) (sp : Sp) : Prop where
  ex : ∃ (f : Addr) (fd : FuncData), FnOk P w K mg base CX k f fd ps sp ∧ mg x = some (.ref f) ∧ PySem.W.keepIn K (.ref f) = true ∧ Binds K fd ps []
theorem Df.cl {P : Program} {w : World} {K : PySem.W.Frag} {mg : Str → Option Value} {base : Heap} {CX : CXT} {k : Nat} {x : Str} {st : Stmt} {ps : List Str} {f : Addr} {fd : FuncData} {sp : Sp} (D : Df K mg x st ps f fd) (F : FnOk P w K mg base CX k f fd ps sp) : Cl P w K mg base CX k x ps sp :=
  ⟨f, fd, F, D.g, D.fn.kp, D.b⟩
section
variable {X : Cx} {CX : CXT} {k j : Nat} {x : Str} {ps : List Str} {sp : Sp} {E : XK} {ES : L2.St → XK} {p pos : Pos} {e : Expr} {es : List Expr} {t : TA}
theorem pe_cl (c : Cl X.prog X.w X.K X.mg X.base CX k x ps sp) (hr : Room j X.A) (hx : Passes CX X E) (ha : PA X (e :: es) t) (hk : k ≤ j := by decide) (hg : Gl X x := by rfl)
    (hdb : (x == ("__debug__" : Str)) = false := by decide) (he : starEach (e :: es) X.env = (false, eval e X.env) :: starEach es X.env := by rfl) (hpl : (backTo pos (starEach es X.env)).any (·.1) = false := by rfl) :
    PE X (.Call (.Name x p) (e :: es) [] pos) (tCall sp [] E t) := by
  obtain ⟨f, fd, F, hm, kp, b⟩ := c.ex
  exact pe_call F (hr.mono hk) hg hm kp b .nil hx ha hdb he hpl
theorem pe_cl0 (c : Cl X.prog X.w X.K X.mg X.base CX0 k x ps sp) (hr : Room j X.A) (ha : PA X (e :: es) t) (hk : k ≤ j := by decide) (hg : Gl X x := by rfl)
    (hdb : (x == ("__debug__" : Str)) = false := by decide) (he : starEach (e :: es) X.env = (false, eval e X.env) :: starEach es X.env := by rfl) (hpl : (backTo pos (starEach es X.env)).any (·.1) = false := by rfl) :
    PE X (.Call (.Name x p) (e :: es) [] pos) (tCall sp [] E0 t) := pe_cl c hr pass0 ha hk hg hdb he hpl
/-- int(e) -/
theorem pe_toInt (B : Blt X.mg) (ha : PE X e te) (hg : Gl X "int" := by rfl)
    (he : starEach (e :: []) X.env = (false, eval e X.env) :: starEach [] X.env := by rfl) (hpl : (backTo pos (starEach [] X.env)).any (·.1) = false := by rfl) :
    PE X (.Call (.Name "int" p) [e] [] pos) (tCB (fun xs H Q => (∃ i, xs = [.int i] ∧ Q (.int i) H) ∨ ∃ k, xs = [.bl k] ∧ Q (.int (if k then 1 else 0)) H) (tCons te tNil)) :=
  pe_callTy call_int1 hg B.int bt_int (pa_cons ha pa_nil he) (by decide) (by decide) he hpl
/-- len(e) of a list or a tuple -/
theorem pe_len (B : Blt X.mg) (ha : PE X e te) (hg : Gl X "len" := by rfl)
    (he : starEach (e :: []) X.env = (false, eval e X.env) :: starEach [] X.env := by rfl) (hpl : (backTo pos (starEach [] X.env)).any (·.1) = false := by rfl) :
    PE X (.Call (.Name "len" p) [e] [] pos) (tCB (fun xs H Q => ∃ p ys, xs = [.ref p] ∧ (SqL X.K H p ys ∨ SqT X.K H p ys) ∧ Q (.int ys.length) H) (tCons te tNil)) :=
  pe_callB call_len_seq hg B.len bt_len (pa_cons ha pa_nil he) (by decide) (by decide) he hpl
/-- o[i] of a list, of a tuple, at a plain place -/
theorem pe_ixL {a b : Expr} {ta tb : TE} (ha : PE X a ta) (hb : PE X b tb) (hs : PlainIx b := by exact fun _ _ => rfl) : PE X (.Subscript a b pos) (tOp (rIxL X.K) ta tb) := pe_ix ix_list ha hb hs
theorem pe_ixT {a b : Expr} {ta tb : TE} (ha : PE X a ta) (hb : PE X b tb) (hs : PlainIx b := by exact fun _ _ => rfl) : PE X (.Subscript a b pos) (tOp (rIxT X.K) ta tb) := pe_ix ix_tup ha hb hs
end
/-- .. within a comprehension's block: the written part by its name -/
theorem pe_ixLK {X : Cx} {a b : Expr} {ta tb : TE} {pos : Pos} (K : PySem.W.Frag) (hK : X.K = K) (ha : PE X a ta) (hb : PE X b tb) (hs : PlainIx b := by exact fun _ _ => rfl) : PE X (.Subscript a b pos) (tOp (rIxL K) ta tb) := by
  subst hK
  exact pe_ix ix_list ha hb hs
theorem pe_ixTK {X : Cx} {a b : Expr} {ta tb : TE} {pos : Pos} (K : PySem.W.Frag) (hK : X.K = K) (ha : PE X a ta) (hb : PE X b tb) (hs : PlainIx b := by exact fun _ _ => rfl) : PE X (.Subscript a b pos) (tOp (rIxT K) ta tb) := by
  subst hK
  exact pe_ix ix_tup ha hb hs
/-- the pool of draws at p -/
def Pool (H : Hp) (p : Addr) : Prop := ∃ x y : Int, H p = some (.lst [.int x, .int y]) ∧ 0 ≤ x ∧ 0 ≤ y ∧ y < 2147483647
theorem SameBut.refl (p : Addr) (H : Hp) : SameBut p H H := fun _ _ h _ => h
theorem SameBut.trans {p : Addr} {H H1 H2 : Hp} (a : SameBut p H H1) (b : SameBut p H1 H2) : SameBut p H H2 := fun c o h n => b c o (a c o h n) n
theorem SameBut.of {p : Addr} {H H' : Hp} (a : Same H H') : SameBut p H H' := fun c o h _ => a c o h
theorem SameBut.upd {p : Addr} {H : Hp} {o : HO} : SameBut p H (upd H p o) := fun c x h n => by
  rw [upd_ne n]
  exact h
theorem SameBut.free {p q : Addr} {H H' : Hp} (a : SameBut p H H') (hp : Pool H' p) (h : H' q = none) : H q = none := by
  cases e : H q with
  | none => rfl
  | some o =>
    by_cases hq : q = p
    · obtain ⟨x, y, e', _⟩ := hp
      rw [hq, e'] at h
      cases h
    · rw [a q o e hq] at h
      cases h
theorem SameBut.seq {K : PySem.W.Frag} {p : Addr} {H H' : Hp} {a : Addr} {xs : List V} (e : SameBut p H H') (hn : a ≠ p) (h : SqL K H a xs) : SqL K H' a xs := by
  rcases h with (h | ⟨o, h⟩) | h
  · exact .inl (.inl (e _ _ h hn))
  · exact .inl (.inr ⟨o, e _ _ h hn⟩)
  · exact .inr h
theorem Pool.same {H H' : Hp} {p : Addr} (h : Pool H p) (s : Same H H') : Pool H' p := by
  obtain ⟨x, y, e, r⟩ := h
  exact ⟨x, y, s _ _ e, r⟩
theorem seq_of {K : PySem.W.Frag} {H : Hp} {p : Addr} {xs : List V} (h : H p = some (.lst xs)) : SqL K H p xs := .inl (.inl h)
theorem tup_of {K : PySem.W.Frag} {H : Hp} {p : Addr} {xs : List V} (h : H p = some (.tup xs)) : SqT K H p xs := .inl (.inl h)
/-- the draws of a lull -/
def LOk (D T L Z : Int) : Prop := 1 ≤ D ∧ D ≤ 4 ∧ 2 * D ≤ T ∧ T ≤ 2 * D + 8 ∧ 1 ≤ L ∧ L ≤ 3 ∧ 1 ≤ Z ∧ Z ≤ 24
end GP
/-! Good periods: the law's draws. -/
namespace GP
open PySem PySem.Spec PyProof.Rows L2
section
variable {P : Program} {w : World} {K : PySem.W.Frag} {mg : Str → Option Value} {base : Heap}
/-! ### the pool -/
def spPool (K : PySem.W.Frag) : Sp := fun vs H Q _ => ∃ (a : Addr) (ns : List Int), vs = [.ref a, .int 0] ∧ SqL K H a (ns.map V.int) ∧ ∀ (p : Addr) (H' : Hp), H p = none → Same H H' → Pool H' p → Q (.ref p) H'
theorem scPool : FnScope ["_law_script", "_law_k", "_law_cell", "_law_big", "_law_mixed"] ["_law_script", "_law_k"] (defScope sLPool) := ⟨rfl, rfl, rfl, by decide +kernel, rfl, by decide +kernel, by decide +kernel⟩
theorem ok_pool {f : Addr} {fd : FuncData} (F : Fun K "_law_pool" "_law_pool" sLPool f fd) (B : Blt mg) : FnOk P w K mg base CX0 1 f fd ["_law_script", "_law_k"] (spPool K) := by
  refine F.ok scPool (fun vs H Q E h => ?_) (fun cdv A outer s H vs Q E hr h => ?_)
  · obtain ⟨a, ns, rfl, _⟩ := h
    rfl
  · obtain ⟨a, ns, rfl, hS, q⟩ := h
    refine ⟨_, pss_cons (ps_set (i := 2) scPool.nd rfl (.inl rfl) pe_int)
      (C8.pss_cut (ps_if (pt_cmpR op_lt (pv 1) (pe_len B (pv 0)) (nomark _)) (pss_one (ps_set (i := 2) scPool.nd rfl (.inl rfl) (pe_ixL (pv 0) (pv 1)))) pss_nil)
      (pss_cons (ps_set (i := 3) scPool.nd rfl (.inl rfl) (pe_callB (call_max2 rfl) (by rfl) B.max bt_max (pa_cons (pe_toInt B (pv 2)) (pa_cons (pe_toInt B (pe_op op_sub (pe_un un_neg pe_int) (pv 2))) pa_nil))))
      (pss_cons (ps_set (i := 4) scPool.nd rfl (.inl rfl) (pe_op op_mod (pe_toInt B (pe_op op_mul (pe_op op_add (pe_op op_add (pe_op op_add (pe_op op_mod (pe_toInt B (pv 3)) pe_int) (pe_op op_mul (pe_op op_mul pe_int (pv 1)) (pv 1))) (pe_op op_mul pe_int (pv 1))) pe_int) pe_int)) pe_int))
      (pss_one (ps_ret (pe_lst (pa_cons (pe_op op_mul (pv 3) (pe_toInt B (pe_cmpR op_ge (pv 3) (pe_op op_pow pe_int pe_int) (nomark _)))) (pa_cons (pv 4) pa_nil)))))))), ?_⟩
    refine ⟨fun σ H' => ∃ c : Int, σ = [some (.ref a), some (.int 0), some (.int c), none, none] ∧ H' = H, ?_, ?_⟩
    · -- if _law_k < len(_law_script)
      refine ⟨_, rfl, .ref a, rfl, a, _, rfl, .inl hS, _, _, rfl, rfl, _, rfl, ite2 (fun c => ?_) (fun c => ?_)⟩
      · have c' : (0 : Int) < ((ns.map V.int).length : Int) := of_decide_eq_true c
        rw [List.length_map] at c'
        obtain ⟨z, hz⟩ : ∃ z, ns[0]? = some z := ⟨ns[0]'(by omega), List.getElem?_eq_getElem (by omega)⟩
        refine ⟨.ref a, rfl, _, rfl, a, _, _, .int z, rfl, rfl, hS, at_of (j := 0) rfl (by rw [List.getElem?_map, hz]; rfl), ?_⟩
        exact ⟨z, rfl, rfl⟩
      · exact ⟨0, rfl, rfl⟩
    · rintro σ H' ⟨c, rfl, rfl⟩
      -- _law_big
      refine ⟨_, rfl, .inl ⟨c, rfl, 1, rfl, _, rfl, -1, c, rfl, rfl, .inl ⟨_, rfl, c, -1 - c, rfl, ?_⟩⟩⟩
      obtain ⟨b, hb⟩ : ∃ b : Int, (if -1 - c > c then -1 - c else c) = b := ⟨_, rfl⟩
      have hb0 : 0 ≤ b := by
        rw [← hb]
        by_cases h : -1 - c > c
        · rw [if_pos h]
          omega
        · rw [if_neg h]
          omega
      rw [hb]
      -- _law_mixed
      refine ⟨_, rfl, .inl ⟨b, rfl, b, 2147483629, rfl, rfl, (by show (0 : Int) < 2147483629; decide), _, rfl, 6121, 0, rfl, rfl, .inl ⟨by decide, by decide⟩, _, rfl, _, 0, rfl, rfl, .inr ⟨by decide, by decide⟩, _, _, rfl, rfl, _, rfl, 41, 0, rfl, rfl, .inl ⟨by decide, by decide⟩, _, _, rfl, rfl, _, 17, rfl, rfl, _, 48271, rfl, rfl, .inr ⟨by decide, by decide⟩, .inl ⟨_, rfl, _, 2147483647, rfl, rfl, (by show (0 : Int) < 2147483647; decide), ?_⟩⟩⟩
      -- return
      refine ⟨_, rfl, _, rfl, 10, 18, rfl, rfl, ⟨by decide, by decide, by decide⟩, b, _, rfl, rfl, .inr ⟨_, rfl, b, _, rfl, rfl, .inr ?_, _, rfl, leLine (by show 2 ≤ 1000000; decide), fun p hp => ?_⟩⟩
      · cases decide ((10 : Int) ^ (18 : Int).toNat ≤ b) with
        | true => exact ⟨by decide, by decide⟩
        | false => exact ⟨by decide, by decide⟩
      · refine q p _ hp (same_upd hp) ⟨_, _, upd_same, ?_, Int.emod_nonneg _ (by decide), Int.emod_lt_of_pos _ (by decide)⟩
        cases decide ((10 : Int) ^ (18 : Int).toNat ≤ b) with
        | true => exact Int.mul_nonneg hb0 (by decide)
        | false => exact Int.mul_nonneg hb0 (by decide)
/-! ### one draw -/
def spTake : Sp := fun vs H Q _ => ∃ (p : Addr) (b : Int), vs = [.ref p, .int b] ∧ Pool H p ∧ 0 < b ∧ b < 1000 ∧ ∀ (r : Int) (H' : Hp), 0 ≤ r → r < b → Pool H' p → SameBut p H H' → Q (.int r) H'
theorem scTake : FnScope ["_law_pool_here", "_law_bound", "_law_result"] ["_law_pool_here", "_law_bound"] (defScope sLTake) := ⟨rfl, rfl, rfl, by decide +kernel, rfl, by decide +kernel, by decide +kernel⟩
theorem ok_take {f : Addr} {fd : FuncData} (F : Fun K "_law_take" "_law_take" sLTake f fd) (B : Blt mg) : FnOk P w K mg base CX0 1 f fd ["_law_pool_here", "_law_bound"] spTake := by
  refine F.ok scTake (fun vs H Q E h => ?_) (fun cdv A outer s H vs Q E hr h => ?_)
  · obtain ⟨p, b, rfl, _⟩ := h
    rfl
  · obtain ⟨p, b, rfl, ⟨x, y, hp, hx, hy, hy1⟩, hb, hb1, q⟩ := h
    have hq : SqL K H p [.int x, .int y] := seq_of hp
    refine ⟨_, pss_cons (ps_if (pt_cmpR op_gt (pe_ixL (pv 0) pe_int) pe_int (nomark _))
        (pss_cons (ps_set (i := 2) scTake.nd rfl (.inl rfl) (pe_op op_mod (pe_toInt B (pe_ixL (pv 0) pe_int)) (pv 1)))
        (pss_cons (ps_asg (pe_op op_fdiv (pe_ixL (pv 0) pe_int) (pv 1)) (pg_sub (pv 0) pe_int set_list))
        (pss_one (ps_ret (pv 2))))) pss_nil)
      (C8.pss_cut (ps_asg (pe_op op_mod (pe_toInt B (pe_op op_add (pe_op op_mul (pe_ixL (pv 0) pe_int) pe_int) pe_int)) pe_int) (pg_sub (pv 0) pe_int set_list))
      (pss_one (ps_ret (pe_op op_mod (pe_toInt B (pe_op op_fdiv (pe_op op_mod (pe_toInt B (pe_op op_mul (pe_ixL (pv 0) pe_int) (pe_ixL (pv 0) pe_int))) pe_int) pe_int)) (pv 1))))), ?_⟩
    refine ⟨_, rfl, p, _, 0, .int x, rfl, rfl, hq, at_of (j := 0) rfl rfl, x, 0, rfl, rfl, _, rfl, ite2 (fun c => ?_) (fun c => ?_)⟩
    · refine ⟨_, rfl, p, _, 0, .int x, rfl, rfl, hq, at_of (j := 0) rfl rfl, .inl ⟨x, rfl, _, rfl, x, b, rfl, rfl, hb, ?_⟩⟩
      refine ⟨_, rfl, p, _, 0, .int x, rfl, rfl, hq, at_of (j := 0) rfl rfl, _, rfl, x, b, rfl, rfl, ⟨hb, by omega⟩, _, rfl, p, _, 0, 0, rfl, rfl, hp, rfl, ?_⟩
      refine ⟨_, rfl, q (x % b) _ (Int.emod_nonneg _ (by omega)) (Int.emod_lt_of_pos _ hb) ⟨x / b, y, upd_same, Int.ediv_nonneg hx (by omega), hy, hy1⟩ SameBut.upd⟩
    · -- the mixed number
      refine ⟨fun σ H' => ∃ z : Int, σ = [some (.ref p), some (.int b), none] ∧ 0 ≤ z ∧ z < 2147483647 ∧ H' = upd H p (.lst [.int x, .int z]), ?_, ?_⟩
      · refine ⟨_, rfl, p, _, 1, .int y, rfl, rfl, hq, at_of (j := 1) rfl rfl, y, 39373, rfl, rfl, .inr ⟨by decide, by decide⟩, _, 7, rfl, rfl, .inl ⟨_, rfl, _, 2147483647, rfl, rfl, (by show (0 : Int) < 2147483647; decide), _, rfl, p, _, 1, 1, rfl, rfl, hp, rfl, ?_⟩⟩
        exact ⟨_, rfl, Int.emod_nonneg _ (by decide), Int.emod_lt_of_pos _ (by decide), rfl⟩
      rintro σ H' ⟨z, rfl, hz0, hz1, rfl⟩
      have hq2 : SqL K (upd H p (.lst [.int x, .int z])) p [.int x, .int z] := seq_of upd_same
      refine ⟨_, rfl, p, _, 1, .int z, rfl, rfl, hq2, at_of (j := 1) rfl rfl, _, rfl, p, _, 1, .int z, rfl, rfl, hq2, at_of (j := 1) rfl rfl, z, z, rfl, rfl, .inl ⟨by omega, by omega⟩, .inl ⟨_, rfl, _, 2147483629, rfl, rfl, (by show (0 : Int) < 2147483629; decide), _, 32, rfl, rfl, ⟨by decide, by decide⟩, .inl ⟨_, rfl, _, rfl, _, b, rfl, rfl, hb, ?_⟩⟩⟩
      exact q _ _ (Int.emod_nonneg _ (by omega)) (Int.emod_lt_of_pos _ hb) ⟨x, z, upd_same, hx, hz0, hz1⟩ SameBut.upd
/-! ### one thing of some -/
def spOne (K : PySem.W.Frag) : Sp := fun vs H Q _ => ∃ (p l : Addr) (xs : List V), vs = [.ref p, .ref l] ∧ Pool H p ∧ SqL K H l xs ∧ l ≠ p ∧ 0 < xs.length ∧ xs.length < 1000 ∧ ∀ (v : V) (H' : Hp), v ∈ xs → Pool H' p → SameBut p H H' → Q v H'
theorem scOne : FnScope ["_law_pool_here", "_law_things"] ["_law_pool_here", "_law_things"] (defScope sLOne) := ⟨rfl, rfl, rfl, by decide +kernel, rfl, by decide +kernel, by decide +kernel⟩
theorem ok_one {f : Addr} {fd : FuncData} (F : Fun K "_law_one" "_law_one" sLOne f fd) (B : Blt mg) (CT : Cl P w K mg base CX0 1 "_law_take" ["_law_pool_here", "_law_bound"] spTake) : FnOk P w K mg base CX0 2 f fd ["_law_pool_here", "_law_things"] (spOne K) := by
  refine F.ok scOne (fun vs H Q E h => ?_) (fun cdv A outer s H vs Q E hr h => ?_)
  · obtain ⟨p, l, xs, rfl, _⟩ := h
    rfl
  · obtain ⟨p, l, xs, rfl, hp, hl, hne, h0, h1, q⟩ := h
    refine ⟨_, pss_one (ps_ret (pe_ixL (pv 1) (pe_cl0 CT hr (pa_cons (pv 0) (pa_cons (pe_len B (pv 1)) pa_nil))))), ?_⟩
    refine ⟨_, rfl, _, rfl, _, rfl, l, xs, rfl, .inl hl, p, _, rfl, hp, by omega, by omega, fun r H' r0 r1 hp' sb => ?_⟩
    have hlt : r.toNat < xs.length := by omega
    exact ⟨l, xs, r, xs[r.toNat], rfl, rfl, sb.seq hne hl, at_of (j := r.toNat) (by omega) (List.getElem?_eq_getElem hlt), q _ H' (List.getElem_mem hlt) hp' sb⟩
/-! ### the numbers of a lull -/
def spLLull : Sp := fun vs H Q _ => ∃ p : Addr, vs = [.ref p] ∧ Pool H p ∧ ∀ (D T L Z : Int) (r : Addr) (H' : Hp), LOk D T L Z → H r = none → Pool H' p → SameBut p H H' → H' r = some (.lst [.int D, .int T, .int L, .int Z]) → Q (.ref r) H'
theorem scLLull : FnScope ["_law_pool_here", "_law_delay"] ["_law_pool_here"] (defScope sLLull) := ⟨rfl, rfl, rfl, by decide +kernel, rfl, by decide +kernel, by decide +kernel⟩
theorem ok_llull {f : Addr} {fd : FuncData} (F : Fun K "_law_lull" "_law_lull" sLLull f fd) (CT : Cl P w K mg base CX0 1 "_law_take" ["_law_pool_here", "_law_bound"] spTake) : FnOk P w K mg base CX0 2 f fd ["_law_pool_here"] spLLull := by
  refine F.ok scLLull (fun vs H Q E h => ?_) (fun cdv A outer s H vs Q E hr h => ?_)
  · obtain ⟨p, rfl, _⟩ := h
    rfl
  · obtain ⟨p, rfl, hp, q⟩ := h
    refine ⟨_, pss_cons (ps_set (i := 1) scLLull.nd rfl (.inl rfl) (pe_op op_add pe_int (pe_cl0 CT hr (pa_cons (pv 0) (pa_cons pe_int pa_nil)))))
      (pss_one (ps_ret (pe_lst (pa_cons (pv 1) (pa_cons (pe_op op_add (pe_op op_mul pe_int (pv 1)) (pe_cl0 CT hr (pa_cons (pv 0) (pa_cons pe_int pa_nil))))
        (pa_cons (pe_op op_add pe_int (pe_cl0 CT hr (pa_cons (pv 0) (pa_cons pe_int pa_nil)))) (pa_cons (pe_op op_add pe_int (pe_cl0 CT hr (pa_cons (pv 0) (pa_cons pe_int pa_nil)))) pa_nil))))))), ?_⟩
    refine ⟨_, rfl, p, 4, rfl, hp, by decide, by decide, fun r1 H1 a1 b1 p1 s1 => ⟨1, r1, rfl, rfl, ?_⟩⟩
    refine ⟨_, rfl, _, rfl, 2, 1 + r1, rfl, rfl, .inl ⟨by decide, by decide⟩, _, rfl, p, 9, rfl, p1, by decide, by decide, fun r2 H2 a2 b2 p2 s2 => ⟨2 * (1 + r1), r2, rfl, rfl, ?_⟩⟩
    refine ⟨_, rfl, p, 3, rfl, p2, by decide, by decide, fun r3 H3 a3 b3 p3 s3 => ⟨1, r3, rfl, rfl, ?_⟩⟩
    refine ⟨_, rfl, p, 24, rfl, p3, by decide, by decide, fun r4 H4 a4 b4 p4 s4 => ⟨1, r4, rfl, rfl, leLine (by show 4 ≤ 1000000; decide), fun l hl => ?_⟩⟩
    have s := ((s1.trans s2).trans s3).trans s4
    exact q (1 + r1) (2 * (1 + r1) + r2) (1 + r3) (1 + r4) l _ ⟨by omega, by omega, by omega, by omega, by omega, by omega, by omega, by omega⟩ (s.free p4 hl) (p4.same (same_upd hl)) (s.trans (.of (same_upd hl))) upd_same
end
end GP
/-! Good periods: the law's own stops and gap. -/
namespace GP
open PySem PySem.Spec PyProof.Rows L2
def tailS (T Z : Int) (n : Nat) : List Int := (List.range n).map fun (i : Nat) => Z + (0 + (i : Int)) * T
theorem tailS_len (T Z : Int) (n : Nat) : (tailS T Z n).length = n := by
  unfold tailS
  rw [List.length_map, List.length_range]
theorem tailS_succ (T Z : Int) (n : Nat) : tailS T Z (n + 1) = tailS T Z n ++ [Z + (0 + (n : Int)) * T] := by
  unfold tailS
  rw [List.range_succ, List.map_append]
  rfl
theorem stops_eq (D T L Z : Int) (s : List Int) : stops D T L Z s = (([-2 * D] : List Int) ++ s) ++ tailS T Z (L + 1).toNat := rfl
theorem stops_map (D T L Z : Int) (s : List Int) : (stops D T L Z s).map V.int = ((([-2 * D] : List Int).map V.int) ++ s.map V.int) ++ (tailS T Z (L + 1).toNat).map V.int := by
  rw [stops_eq, List.map_append, List.map_append]
theorem snoc_map (l : List Int) (x : Int) : (l ++ [x]).map V.int = l.map V.int ++ [V.int x] := by
  rw [List.map_append]
  rfl
section
variable {P : Program} {w : World} {K : PySem.W.Frag} {mg : Str → Option Value} {base : Heap}
/-! ### the law's stops -/
def spLStops (K : PySem.W.Frag) : Sp := fun vs H Q _ => ∃ (a b : Addr) (D T L Z : Int) (ss : List Int), vs = [.ref a, .ref b] ∧ SqL K H a [.int D, .int T, .int L, .int Z] ∧ SqL K H b (ss.map V.int) ∧ LOk D T L Z ∧ ss.length ≤ 24 ∧
  ∀ (r : Addr) (H' : Hp), Same H H' → H' r = some (.lst ((stops D T L Z ss).map V.int)) → Q (.ref r) H'
abbrev nLStops : List Str := ["_law_plain", "_law_signs", "_law_delay", "_law_turn", "_law_losses", "_law_quiet", "_law_at"]
theorem scLStops : FnScope nLStops ["_law_plain", "_law_signs"] (defScope sLStops) := ⟨rfl, rfl, rfl, by decide +kernel, rfl, by decide +kernel, by decide +kernel⟩
theorem ok_lstops {f : Addr} {fd : FuncData} (F : Fun K "_law_stops" "_law_stops" sLStops f fd) (B : Blt mg) : FnOk P w K mg base CX0 1 f fd ["_law_plain", "_law_signs"] (spLStops K) := by
  refine F.ok scLStops (fun vs H Q E h => ?_) (fun cdv A outer s H vs Q E hr h => ?_)
  · obtain ⟨a, b, D, T, L, Z, ss, rfl, _⟩ := h
    rfl
  · obtain ⟨a, b, D, T, L, Z, ss, rfl, hA, hB, ok, hl, q⟩ := h
    obtain ⟨o1, o2, o3, o4, o5, o6, o7, o8⟩ := ok
    refine ⟨_, pss_cons (ps_asg (pv 0) (pg_lst rfl (pgs_cons (pg_name (i := 2) scLStops.nd rfl (.inl rfl)) (pgs_cons (pg_name (i := 3) scLStops.nd rfl (.inr rfl)) (pgs_cons (pg_name (i := 4) scLStops.nd rfl (.inl rfl)) (pgs_cons (pg_name (i := 5) scLStops.nd rfl (.inr rfl)) pgs_nil))))))
      (pss_one (ps_ret (pe_op op_cat (pe_op op_cat (pe_lst (pa_cons (pe_op op_mul (pe_un un_neg pe_int) (pv 2)) pa_nil)) (pe_callTy call_list_of (by rfl) B.list bt_list (pa_cons (pv 1) pa_nil)))
        (pe_lc (own := [("_law_at", 6)]) (g := gName 6) (tt := tYes) rfl scLStops.nd (pi_range1 rfl B.range (pa_cons (pe_op op_add (pv 4) pe_int) pa_nil)) (blkOk_by (N := nLStops) (sc := defScope sLStops) (by decide +kernel))
          (fun _ _ _ _ _ => pg_name (i := 6) scLStops.nd rfl (.inl rfl)) (fun _ _ _ _ _ => pts_nil) (fun _ _ _ _ _ => pe_op op_add (pv 5) (pe_op op_mul (pv 6) (pv 3))))))), ?_⟩
    -- the four numbers
    refine ⟨.ref a, rfl, a, _, rfl, hA, rfl, _, _, rfl, _, _, rfl, _, _, rfl, _, _, rfl, rfl, ?_⟩
    -- [-2 * delay] + list(signs)
    refine ⟨2, rfl, _, rfl, -2, D, rfl, rfl, .inl ⟨by decide, by decide⟩, leLine (by show 1 ≤ 1000000; decide), fun p1 h1 => ?_⟩
    have s1 := same_upd (o := .lst [V.int (-2 * D)]) h1
    refine ⟨.ref b, rfl, b, _, rfl, .inl (s1.seq hB), fun p2 h2 => ?_⟩
    have s2 := same_upd (o := .lst (ss.map V.int)) h2
    have e1 := s2 _ _ (upd_same (H := H) (a := p1) (o := .lst [V.int (-2 * D)]))
    refine ⟨p1, p2, _, _, rfl, rfl, e1, upd_same, leLine (by rw [List.length_map]; show 1 + ss.length ≤ 1000000; omega), fun p3 h3 => ?_⟩
    have s3 := same_upd (o := .lst ([V.int (-2 * D)] ++ ss.map V.int)) h3
    have s4 := (s1.trans s2).trans s3
    refine ⟨.int L, rfl, L, 1, rfl, rfl, L + 1, rfl, by omega, by omega, fun p4 h4 => ?_⟩
    refine lc_range (lo := 0) (n := (L + 1).toNat) (fun i H' => Same (upd (upd (upd H p1 (.lst [V.int (-2 * D)])) p2 (.lst (ss.map V.int))) p3 (.lst ([V.int (-2 * D)] ++ ss.map V.int))) H' ∧ H' p4 = some (.lst ((tailS T Z i).map V.int))) ⟨same_upd h4, upd_same⟩ ?_ ?_
    · rintro i H5 hi ⟨s5, e5⟩
      refine ⟨rfl, ?_⟩
      refine ⟨_, rfl, _, rfl, _, rfl, _, T, rfl, rfl, .inr ⟨by omega, by omega⟩, Z, _, rfl, rfl, _, e5, ltLine (by rw [List.length_map, tailS_len]; omega), ?_, ?_⟩
      · intro c x hx
        rw [upd_ne (ne_of_none hx h4)]
        exact s5 c x hx
      · rw [upd_same, tailS_succ, snoc_map]
    · rintro H5 ⟨s5, e5⟩
      have e6 := s5 _ _ (upd_same (H := upd (upd H p1 (.lst [V.int (-2 * D)])) p2 (.lst (ss.map V.int))) (a := p3) (o := .lst ([V.int (-2 * D)] ++ ss.map V.int)))
      refine ⟨p3, p4, _, _, rfl, rfl, e6, e5, leLine (by rw [List.length_append, List.length_map, List.length_map, tailS_len]; show 1 + ss.length + _ ≤ _; omega), fun p5 h5 => ?_⟩
      refine q p5 _ ((s4.trans s5).trans (same_upd h5)) ?_
      rw [upd_same, stops_map]
      rfl
/-! ### the law's gap -/
theorem atS {ns : List Int} {z : Int} {j : Nat} (e : z = (j : Int)) (h : j < ns.length) : atI (ns.map V.int) z = some (V.int (ns.getD j 0)) := by
  refine at_of e ?_
  rw [List.getElem?_map, getD_of h]
  rfl
def spLGap (K : PySem.W.Frag) : Sp := fun vs H Q _ => ∃ (a b : Addr) (D T L Z p : Int), vs = [.ref a, .ref b] ∧ SqL K H a [.int D, .int T, .int L, .int Z] ∧ SqL K H b ((sgn Z p).map V.int) ∧ LOk D T L Z ∧ 1 ≤ p ∧
  ∀ (H' : Hp), Same H H' → Q (.int (gap D T L Z p)) H'
abbrev nLGap : List Str := ["_law_plain", "_law_signs", "_law_found", "_law_step", "_law_best", "_law_place"]
theorem scLGap : FnScope nLGap ["_law_plain", "_law_signs"] (defScope sLGap) := ⟨rfl, rfl, rfl, by decide +kernel, rfl, by decide +kernel, by decide +kernel⟩
theorem ok_lgap {f : Addr} {fd : FuncData} (F : Fun K "_law_gap" "_law_gap" sLGap f fd) (B : Blt mg) (CS : Cl P w K mg base CX0 1 "_law_stops" ["_law_plain", "_law_signs"] (spLStops K)) : FnOk P w K mg base CX0 2 f fd ["_law_plain", "_law_signs"] (spLGap K) := by
  refine F.ok scLGap (fun vs H Q E h => ?_) (fun cdv A outer s H vs Q E hr h => ?_)
  · obtain ⟨a, b, D, T, L, Z, p, rfl, _⟩ := h
    rfl
  · obtain ⟨a, b, D, T, L, Z, p, rfl, hA, hB, ok, hp, q⟩ := h
    obtain ⟨o1, o2, o3, o4, o5, o6, o7, o8⟩ := id ok
    have hlen := sgn_small (z := Z) (show 0 < p by omega) o8
    refine ⟨_, pss_cons (ps_par (i := 2) (j := 3) rfl scLGap.nd rfl rfl (by decide) rfl rfl (pa_cons (pe_cl0 CS hr (pa_cons (pv 0) (pa_cons (pv 1) pa_nil))) (pa_cons (pe_op op_add (pe_ixL (pv 0) pe_int) pe_int) pa_nil)) (by rfl))
      (pss_cons (ps_set (i := 4) scLGap.nd rfl (.inl rfl) (pe_op op_sub (pe_ixL (pv 2) (pv 3)) (pe_ixL (pv 2) pe_int)))
      (pss_cons (ps_for PassesOwn.never rfl (pi_range1 (by rfl) B.range (pa_cons (pe_op op_add (pe_len B (pv 1)) pe_int) pa_nil)) (pg_name (i := 5) scLGap.nd rfl (.inl rfl))
        (pss_one (ps_set (i := 4) scLGap.nd rfl (.inl rfl) (pe_callB (call_max2 rfl) (by rfl) B.max bt_max (pa_cons (pe_toInt B (pv 4)) (pa_cons (pe_toInt B (pe_op op_sub (pe_ixL (pv 2) (pe_op op_add (pv 5) (pv 3))) (pe_ixL (pv 2) (pv 5)))) pa_nil))))))
      (pss_one (ps_ret (pv 4))))), ?_⟩
    obtain ⟨fs, hfs⟩ : ∃ fs, stops D T L Z (sgn Z p) = fs := ⟨_, rfl⟩
    obtain ⟨k, hk⟩ : ∃ k, (L + 1).toNat = k := ⟨_, rfl⟩
    obtain ⟨n, hn⟩ : ∃ n, (sgn Z p).length + 1 = n := ⟨_, rfl⟩
    have hfl : fs.length = n + k := by
      rw [← hfs, stops_len, hk, ← hn]
      omega
    have hk1 : L + 1 = (k : Int) := by omega
    refine ⟨_, rfl, _, rfl, a, b, D, T, L, Z, sgn Z p, rfl, hA, hB, ok, hlen, fun r H1 s1 e1 => ?_⟩
    rw [hfs] at e1
    have hR : SqL K H1 r (fs.map V.int) := seq_of e1
    refine ⟨_, rfl, a, _, 2, .int L, rfl, rfl, s1.seq hA, at_of (j := 2) rfl rfl, L, 1, rfl, rfl, _, _, rfl, ?_⟩
    -- the first difference
    refine ⟨_, rfl, _, rfl, r, _, L + 1, _, rfl, rfl, hR, atS hk1 (by omega), _, rfl, r, _, 0, _, rfl, rfl, hR, atS (j := 0) rfl (by omega), _, _, rfl, rfl, ?_⟩
    refine ⟨.ref b, rfl, b, _, rfl, .inl (s1.seq hB), _, _, rfl, rfl, _, rfl, ?_⟩
    rw [List.length_map]
    refine ⟨by omega, by omega, ?_⟩
    have en : (((sgn Z p).length : Int) + 1).toNat = n := by omega
    rw [en]
    have hd : (diffs fs k n).headD 0 = fs.getD k 0 - fs.getD 0 0 := by
      have h0 : (diffs fs k n)[0]? = some (fs.getD (0 + k) 0 - fs.getD 0 0) := diffs_get fs (by omega)
      cases e : diffs fs k n with
      | nil =>
        rw [e] at h0
        cases h0
      | cons x r =>
        rw [e] at h0
        have := Option.some.inj h0
        rw [Nat.zero_add] at this
        exact this
    refine for_range (lo := 0) (n := n) (fun i σ H' => ∃ v5 : Option V, σ = [some (.ref a), some (.ref b), some (.ref r), some (.int (L + 1)), some (.int (((diffs fs k n).take i).foldl mx2 ((diffs fs k n).headD 0))), v5] ∧ H' = H1) ⟨none, ?_, rfl⟩ ?_ ?_
    · rw [hd]
      rfl
    · rintro i σ H' hi ⟨v5, rfl, rfl⟩
      refine ⟨_, rfl, .inl ⟨_, rfl, .ref r, rfl, _, rfl, _, rfl, _, _, rfl, rfl, r, _, _, _, rfl, rfl, hR, atS (j := i + k) (by omega) (by omega), .ref r, rfl, _, rfl, r, _, _, _, rfl, rfl, hR, atS (j := i) (by omega) (by omega), _, _, rfl, rfl, .inl ⟨_, rfl, _, _, rfl, ?_⟩⟩⟩
      refine ⟨some (.int (0 + (i : Int))), ?_, rfl⟩
      rw [diffs_take fs hi, List.foldl_append]
      rfl
    · rintro σ H' ⟨v5, rfl, rfl⟩
      rw [List.take_of_length_le (by rw [diffs_len]; exact Nat.le_refl _)]
      refine ⟨_, rfl, ?_⟩
      have eg : (diffs fs k n).foldl mx2 ((diffs fs k n).headD 0) = gap D T L Z p := by
        unfold gap
        rw [hfs, hk, hn]
        rfl
      rw [eg]
      exact q H' s1
end
end GP
/-! Good periods: a list of spans in the heap; the law's spans. -/
namespace GP
open PySem PySem.Spec PyProof.Rows L2
/-! ### spans in the heap -/
/-- at rs the pairs ss -/
def PairsAt (H : Hp) (rs : List Addr) (ss : List (Int × Int)) : Prop := rs.length = ss.length ∧ ∀ (i : Nat) (r : Addr) (x : Int × Int), rs[i]? = some r → ss[i]? = some x → H r = some (.tup [.int x.1, .int x.2])
theorem PairsAt.nil (H : Hp) : PairsAt H [] [] := ⟨rfl, fun i r x h => by simp at h⟩
theorem PairsAt.snoc {H : Hp} {rs : List Addr} {ss : List (Int × Int)} {r : Addr} {a b : Int} (h : PairsAt H rs ss) (hr : H r = some (.tup [.int a, .int b])) : PairsAt H (rs ++ [r]) (ss ++ [(a, b)]) := by
  obtain ⟨hl, hp⟩ := h
  refine ⟨by rw [List.length_append, List.length_append, hl]; rfl, fun i r' x h1 h2 => ?_⟩
  by_cases hi : i < rs.length
  · rw [List.getElem?_append_left hi] at h1
    rw [List.getElem?_append_left (by omega)] at h2
    exact hp i r' x h1 h2
  · rw [List.getElem?_append_right (by omega)] at h1
    rw [List.getElem?_append_right (by omega)] at h2
    have e : i - rs.length = 0 := by
      have := (List.getElem?_eq_some_iff.mp h1).1
      simp at this
      omega
    rw [e] at h1
    rw [← hl, e] at h2
    have e1 := Option.some.inj h1
    have e2 := Option.some.inj h2
    subst e1
    subst e2
    exact hr
theorem PairsAt.split {H : Hp} {rs : List Addr} {ss : List (Int × Int)} {a b : Int} (h : PairsAt H rs (ss ++ [(a, b)])) : ∃ rs0 r, rs = rs0 ++ [r] ∧ PairsAt H rs0 ss ∧ H r = some (.tup [.int a, .int b]) := by
  obtain ⟨hl, hp⟩ := h
  rw [List.length_append] at hl
  rcases List.eq_nil_or_concat rs with e | ⟨rs0, r, e⟩
  · subst e
    simp at hl
  · rw [List.concat_eq_append] at e
    subst e
    rw [List.length_append] at hl
    have hl' : rs0.length = ss.length := by
      have e1 : ([r] : List Addr).length = 1 := rfl
      have e2 : ([(a, b)] : List (Int × Int)).length = 1 := rfl
      omega
    refine ⟨rs0, r, rfl, ⟨hl', fun i r' x h1 h2 => ?_⟩, ?_⟩
    · have hi := (List.getElem?_eq_some_iff.mp h1).1
      exact hp i r' x (by rw [List.getElem?_append_left hi]; exact h1) (by rw [List.getElem?_append_left (by omega)]; exact h2)
    · exact hp rs0.length r (a, b) (by rw [List.getElem?_append_right (Nat.le_refl _), Nat.sub_self]; rfl) (by rw [List.getElem?_append_right (by omega), hl', Nat.sub_self]; rfl)
theorem PairsAt.of {H H' : Hp} {rs : List Addr} {ss : List (Int × Int)} (h : PairsAt H rs ss) (k : ∀ r x y, H r = some (.tup [.int x, .int y]) → H' r = some (.tup [.int x, .int y])) : PairsAt H' rs ss :=
  ⟨h.1, fun i r x h1 h2 => k r x.1 x.2 (h.2 i r x h1 h2)⟩
/-- a list of the spans ss at p -/
def SpansAt (H : Hp) (p : Addr) (ss : List (Int × Int)) : Prop := ∃ rs : List Addr, H p = some (.lst (rs.map V.ref)) ∧ PairsAt H rs ss
theorem SpansAt.same {H H' : Hp} {p : Addr} {ss : List (Int × Int)} (h : SpansAt H p ss) (s : Same H H') : SpansAt H' p ss := by
  obtain ⟨rs, h1, h2⟩ := h
  exact ⟨rs, s _ _ h1, h2.of fun r x y e => s _ _ e⟩
/-- as data -/
def prD (x : Int × Int) : PyData := .tuple [.int x.1, .int x.2]
def ssD (ss : List (Int × Int)) : PyData := .list (ss.map prD)
theorem pairs_dp {K : PySem.W.Frag} {H : Hp} : ∀ {ss : List (Int × Int)} {rs : List Addr}, PairsAt H rs ss → DpAll K H (rs.map V.ref) (ss.map prD)
  | [], [], _ => .nil
  | [], r :: rs, h => by
    have := h.1
    simp at this
  | x :: ss, [], h => by
    have := h.1
    simp at this
  | x :: ss, r :: rs, h => by
    refine .cons (.tup (tup_of (h.2 0 r x rfl rfl)) (.cons (.int _) (.cons (.int _) .nil))) (pairs_dp ⟨by have := h.1; simpa using this, fun i r' x' h1 h2 => h.2 (i + 1) r' x' h1 h2⟩)
theorem SpansAt.dp {K : PySem.W.Frag} {H : Hp} {p : Addr} {ss : List (Int × Int)} (h : SpansAt H p ss) : Dp K H (.ref p) (ssD ss) := by
  obtain ⟨rs, h1, h2⟩ := h
  exact .lst (seq_of h1) (pairs_dp h2)
theorem prD_lay (x : Int × Int) : (prD x).canLay0 = true := by simp [prD, PyData.canLay0, PyData.canLayAll0]
theorem prD_depth (x : Int × Int) : (prD x).depth = 1 := by simp [prD, PyData.depth, PyData.depthAll]
theorem prDs_lay : ∀ ss : List (Int × Int), PyData.canLayAll0 (ss.map prD) = true
  | [] => by simp [PyData.canLayAll0]
  | x :: ss => by simp [PyData.canLayAll0, prD_lay x, prDs_lay ss]
theorem prDs_depth : ∀ ss : List (Int × Int), PyData.depthAll (ss.map prD) ≤ 1
  | [] => by simp [PyData.depthAll]
  | x :: ss => by
    have h1 := prDs_depth ss
    have h2 := prD_depth x
    simp only [List.map_cons, PyData.depthAll]
    omega
theorem ssD_lay (ss : List (Int × Int)) : (ssD ss).canLay0 = true := by
  unfold ssD
  simp only [PyData.canLay0]
  exact prDs_lay ss
theorem ssD_shaped (ss : List (Int × Int)) : SeqAt.shaped (ssD ss) = true := by
  have h1 := prDs_depth ss
  have h2 : PyData.depth (ssD ss) ≤ 64 := by
    unfold ssD
    simp only [PyData.depth]
    omega
  show ((ssD ss).canLay0 && decide ((ssD ss).depth ≤ 64)) = true
  rw [Bool.and_eq_true]
  exact ⟨ssD_lay ss, decide_eq_true h2⟩
theorem nil_shaped : SeqAt.shaped (.list []) = true := by decide
theorem ssD_nil : PyData.eqv (ssD []) (.list []) = true := by simp [ssD, PyData.eqv, PyData.eqvAll]
theorem ssD_cons {ss : List (Int × Int)} (h : ss ≠ []) : PyData.eqv (ssD ss) (.list []) = false := by
  cases ss with
  | nil => exact absurd rfl h
  | cons x r => simp [ssD, PyData.eqv, PyData.eqvAll]
theorem ixN_last (n : Nat) : ixN (n + 1) (-1) = some n := by
  unfold ixN
  rw [if_neg (by omega), if_pos (by omega)]
  congr 1
  omega
theorem set_last {α : Type} (l : List α) (x y : α) : (l ++ [x]).set l.length y = l ++ [y] := by
  induction l with
  | nil => rfl
  | cons a r ih =>
    show a :: ((r ++ [x]).set r.length y) = a :: (r ++ [y])
    rw [ih]
theorem refs_snoc (rs : List Addr) (r : Addr) : (rs ++ [r]).map V.ref = rs.map V.ref ++ [V.ref r] := by
  rw [List.map_append]
  rfl
/-- a span is made longer: the new pair at T, put in the last one's place -/
theorem spans_set {H : Hp} {p T : Addr} {rs : List Addr} {r : Addr} {ss : List (Int × Int)} {a x : Int} (hp : H p = some (.lst ((rs ++ [r]).map V.ref))) (hs : PairsAt H rs ss) (hT : H T = none) :
    SpansAt (upd (upd H T (.tup [.int a, .int x])) p (.lst (((rs ++ [r]).map V.ref).set rs.length (.ref T)))) p (ss ++ [(a, x)]) := by
  have npT : p ≠ T := ne_of_none hp hT
  refine ⟨rs ++ [T], ?_, PairsAt.snoc (hs.of fun r x y e => ?_) ?_⟩
  · rw [upd_same, refs_snoc, refs_snoc]
    have e := set_last (rs.map V.ref) (V.ref r) (V.ref T)
    rw [List.length_map] at e
    rw [e]
  · rw [upd_ne (ne_of e hp (by intro z; cases z)), upd_ne (ne_of_none e hT)]
    exact e
  · rw [upd_ne npT.symm, upd_same]
/-- a span more -/
theorem spans_app {H : Hp} {p T : Addr} {rs : List Addr} {ss : List (Int × Int)} {a x : Int} (hp : H p = some (.lst (rs.map V.ref))) (hs : PairsAt H rs ss) (hT : H T = none) :
    SpansAt (upd (upd H T (.tup [.int a, .int x])) p (.lst ((rs.map V.ref) ++ [.ref T]))) p (ss ++ [(a, x)]) := by
  have npT : p ≠ T := ne_of_none hp hT
  refine ⟨rs ++ [T], ?_, PairsAt.snoc (hs.of fun r x y e => ?_) ?_⟩
  · rw [upd_same, refs_snoc]
  · rw [upd_ne (ne_of e hp (by intro z; cases z)), upd_ne (ne_of_none e hT)]
    exact e
  · rw [upd_ne npT.symm, upd_same]
theorem same_two {H H' : Hp} {p T : Addr} {o u : HO} (s : Same H H') (hp : H p = none) (hT : H' T = none) : Same H (upd (upd H' T o) p u) := fun b x e => by
  rw [upd_ne (ne_of_none e hp), upd_ne (ne_of_none (s b x e) hT)]
  exact s b x e
theorem len_refs {H : Hp} {rs : List Addr} {ss : List (Int × Int)} (h : PairsAt H rs ss) : (rs.map V.ref).length = ss.length := by
  rw [List.length_map]
  exact h.1
section
variable {P : Program} {w : World} {K : PySem.W.Frag} {mg : Str → Option Value} {base : Heap}
/-! ### the law's spans -/
def spLSpans (K : PySem.W.Frag) : Sp := fun vs H Q _ => ∃ (a : Addr) (l : List Int), vs = [.ref a] ∧ SqL K H a (l.map V.int) ∧ l.length ≤ 200 ∧ ∀ (r : Addr) (H' : Hp), Same H H' → SpansAt H' r (spans l) → Q (.ref r) H'
abbrev nLSpans : List Str := ["_law_good", "_law_found", "_law_period"]
theorem scLSpans : FnScope nLSpans ["_law_good"] (defScope sLSpans) := ⟨rfl, rfl, rfl, by decide +kernel, rfl, by decide +kernel, by decide +kernel⟩
theorem ints_at {l : List Int} {i : Nat} {x : V} (h : (l.map V.int)[i]? = some x) : ∃ z, l[i]? = some z ∧ x = V.int z := by
  rw [List.getElem?_map] at h
  cases e : l[i]? with
  | none =>
    rw [e] at h
    cases h
  | some z =>
    rw [e] at h
    exact ⟨z, rfl, (Option.some.inj h).symm⟩
theorem ok_lspans {f : Addr} {fd : FuncData} (F : Fun K "_law_spans" "_law_spans" sLSpans f fd) : FnOk P w K mg base CX0 1 f fd ["_law_good"] (spLSpans K) := by
  refine F.ok scLSpans (fun vs H Q E h => ?_) (fun cdv A outer s H vs Q E hr h => ?_)
  · obtain ⟨a, l, rfl, _⟩ := h
    rfl
  · obtain ⟨a, l, rfl, hA, hl, q⟩ := h
    refine ⟨_, pss_cons (ps_set (i := 1) scLSpans.nd rfl (.inl rfl) (pe_lst pa_nil))
      (pss_cons (ps_for PassesOwn.never rfl (pi_list (pv 0)) (pg_name (i := 2) scLSpans.nd rfl (.inl rfl))
        (pss_one (ps_if (PW.pt (pw_and (pt_cmpR (op_neD hr.units) (pv 1) (pe_lst pa_nil) (nomark _)) (pw_and1 (pt_cmpR op_eq (pe_ixT (pe_ixL (pv 1) (pe_un un_neg pe_int)) pe_int) (pe_op op_sub (pv 2) pe_int) (nomark _)))))
          (pss_one (ps_asg (pe_tup (pa_cons (pe_ixT (pe_ixL (pv 1) (pe_un un_neg pe_int)) pe_int) (pa_cons (pv 2) pa_nil))) (pg_sub (pv 1) (pe_un un_neg pe_int) set_list)))
          (pss_one (ps_expr (pe_bm PySem.F.plainAttrs_list PySem.F.slot_list_append PySem.F.type_list_append mt_append (pv 1) (pa_cons (pe_tup (pa_cons (pv 2) (pa_cons (pv 2) pa_nil))) pa_nil)))))))
      (pss_one (ps_ret (pv 1)))), ?_⟩
    refine ⟨Nat.zero_le _, fun p hp => ?_⟩
    have s0 := same_upd (o := .lst []) hp
    refine ⟨_, rfl, a, rfl, ⟨_, s0.seq hA⟩, for_list (K := K) (a := a) (xs := l.map V.int) (fun i σ H' => ∃ v : Option V, σ = [some (.ref a), some (.ref p), v] ∧ Same H H' ∧ SpansAt H' p (spans (l.take i)))
      ⟨none, rfl, s0, [], upd_same, PairsAt.nil _⟩ (fun i σ H' _ ⟨_, _, s, _⟩ => s.seq hA) ?_ ?_⟩
    · rintro i y σ H1 hi ⟨v, rfl, s1, hS⟩
      obtain ⟨x, hx, rfl⟩ := ints_at hi
      have hsl := spans_len l i
      have hil : i < l.length := (List.getElem?_eq_some_iff.mp hx).1
      -- _law_found != []
      refine ⟨.ref p, rfl, Nat.zero_le _, fun n1 h1 => ?_⟩
      have sn := same_upd (o := .lst []) h1
      have hS1 := hS.same sn
      have sn1 := s1.trans sn
      refine ⟨ssD (spans (l.take i)), .list [], hS1.dp, .lst (seq_of upd_same) .nil, ssD_shaped _, nil_shaped, _, rfl, ?_⟩
      rw [show spans (l.take (i + 1)) = spS (spans (l.take i)) x from spans_take hx]
      obtain ⟨rs, hp1, hr1⟩ := hS1
      rcases last_split (spans (l.take i)) with e | ⟨s0', c, d, e⟩
      · rw [e] at hr1 hsl ⊢
        rw [ssD_nil]
        refine iteF ?_
        refine iteF ?_
        refine ⟨.ref p, rfl, .inl ⟨rfl, _, seq_of hp1⟩, _, rfl, _, rfl, (by show 2 ≤ sizeLine; decide), fun T hT => ?_⟩
        have hp2 := same_upd (o := .tup [V.int x, V.int x]) hT _ _ hp1
        refine ⟨p, _, _, rfl, rfl, hp2, ltLine (by rw [len_refs hr1]; simp), ?_⟩
        exact ⟨_, rfl, same_two sn1 hp hT, spans_app hp1 hr1 hT⟩
      · rw [e] at hr1 hsl ⊢
        rw [ssD_cons (by simp)]
        refine iteT ?_
        obtain ⟨rs0, r, rfl, hr0, er⟩ := hr1.split
        have hat : atI ((rs0 ++ [r]).map V.ref) (-1) = some (.ref r) := by
          rw [refs_snoc]
          exact atI_last _ _
        refine ⟨.ref p, rfl, 1, rfl, p, _, -1, .ref r, rfl, rfl, seq_of hp1, hat, r, _, 1, .int d, rfl, rfl, tup_of er, at_of (j := 1) rfl rfl, _, rfl, x, 1, rfl, rfl, rfl, _, rfl, ite2 (fun c' => ?_) (fun c' => ?_)⟩
        · have ed : d = x - 1 := V.int.inj (of_decide_eq_true c')
          refine ⟨.ref p, rfl, 1, rfl, p, _, -1, .ref r, rfl, rfl, seq_of hp1, hat, r, _, 0, .int c, rfl, rfl, tup_of er, at_of (j := 0) rfl rfl, _, rfl, (by show 2 ≤ sizeLine; decide), fun T hT => ?_⟩
          have hp2 := same_upd (o := .tup [V.int c, V.int x]) hT _ _ hp1
          refine ⟨.ref p, rfl, 1, rfl, p, _, -1, rs0.length, rfl, rfl, hp2, ?_, ?_⟩
          · rw [List.length_map, List.length_append]
            exact ixN_last _
          · refine ⟨_, rfl, same_two sn1 hp hT, ?_⟩
            rw [spS_join ed]
            exact spans_set hp1 hr0 hT
        · have ed : ¬ d = x - 1 := fun z => c' (decide_eq_true (by rw [z]))
          refine ⟨.ref p, rfl, .inl ⟨rfl, _, seq_of hp1⟩, _, rfl, _, rfl, (by show 2 ≤ sizeLine; decide), fun T hT => ?_⟩
          have hp2 := same_upd (o := .tup [V.int x, V.int x]) hT _ _ hp1
          refine ⟨p, _, _, rfl, rfl, hp2, ltLine (by rw [len_refs hr1]; omega), ?_⟩
          refine ⟨_, rfl, same_two sn1 hp hT, ?_⟩
          rw [spS_new ed]
          exact spans_app hp1 hr1 hT
    · rintro σ H1 ⟨v, rfl, s1, hS⟩
      rw [List.length_map, List.take_length] at hS
      exact ⟨_, rfl, q p H1 s1 hS⟩
end
end GP
/-! Good periods: the program's defs that raise nothing here. -/
namespace GP
open PySem PySem.Spec PyProof.Rows L2
/-- the module's numbers -/
structure Cst (mg : Str → Option Value) : Prop where
  turn : ∃ t, mg "MOST_TURN" = some (.int 200 t)
  losses : ∃ t, mg "MOST_LOSSES" = some (.int 3 t)
  quiet : ∃ t, mg "MOST_QUIET" = some (.int 500 t)
  period : ∃ t, mg "MOST_PERIOD" = some (.int 200 t)
  delay : ∃ t, mg "MOST_DELAY" = some (.int 50 t)
  limit : ∃ t, mg "MOST_LIMIT" = some (.int 20000 t)
/-- a module's number -/
theorem pe_num {X : Cx} {x : Str} {n : Int} {pos : Pos} (h : ∃ t, X.mg x = some (.int n t)) (hg : Gl X x := by rfl) (hd : (x == ("__debug__" : Str)) = false := by decide) : PE X (.Name x pos) (tC (.int n)) := by
  obtain ⟨t, h⟩ := h
  exact pe_glob hg h ⟨_, rfl⟩ hd
/-! ### integers -/
/-- None, a truth, an integer, a text -/
def Sc : V → Prop
  | .non => True
  | .bl _ => True
  | .int _ => True
  | .str _ => True
  | _ => False
def isI : V → Bool
  | .int _ => true
  | _ => false
def btw (v : V) (a b : Int) : Bool := match v with
  | .int i => decide (a ≤ i) && decide (i ≤ b)
  | _ => false
section
variable {P : Program} {w : World} {K : PySem.W.Frag} {mg : Str → Option Value} {base : Heap}
def spInteger : Sp := fun vs H Q _ => ∃ v : V, vs = [v] ∧ Sc v ∧ Q (.bl (isI v)) H
theorem scInteger : FnScope ["value"] ["value"] (defScope sInteger) := ⟨rfl, rfl, rfl, by decide +kernel, rfl, by decide +kernel, by decide +kernel⟩
theorem ok_integer {f : Addr} {fd : FuncData} (F : Fun K "is_integer" "is_integer" sInteger f fd) (B : Blt mg) : FnOk P w K mg base CX0 1 f fd ["value"] spInteger := by
  refine F.ok scInteger (fun vs H Q E h => ?_) (fun cdv A outer s H vs Q E hr h => ?_)
  · obtain ⟨v, rfl, _⟩ := h
    rfl
  · obtain ⟨v, rfl, hv, q⟩ := h
    refine ⟨_, pss_one (ps_ret (pe_and (pe_callB call_isi (by rfl) B.isi bt_isi (pa_cons (pv 0) (pa_cons (pe_bltn (v := .ty "int") (by rfl) B.int bt_int rfl) pa_nil)))
      (pe_one (pe_not (pe_callB call_isi (by rfl) B.isi bt_isi (pa_cons (pv 0) (pa_cons (pe_bltn (v := .ty "bool") (by rfl) B.bool bt_bool rfl) pa_nil))))))), ?_⟩
    cases v with
    | non => exact ⟨_, rfl, _, _, .type "NoneType", .type "int", false, rfl, .ty _, .base .non, kit_ty (by decide +kernel), _, rfl, iteF q⟩
    | bl b => exact ⟨_, rfl, _, _, .type "bool", .type "int", true, rfl, .ty _, .base (.bl b), kit_ty (by decide +kernel), _, rfl, iteT ⟨_, rfl, _, _, .type "bool", .type "bool", true, rfl, .ty _, .base (.bl b), kit_ty (by decide +kernel), _, rfl, q⟩⟩
    | int i => exact ⟨_, rfl, _, _, .type "int", .type "int", true, rfl, .ty _, .base (.int i), kit_ty (by decide +kernel), _, rfl, iteT ⟨_, rfl, _, _, .type "int", .type "bool", false, rfl, .ty _, .base (.int i), kit_ty (by decide +kernel), _, rfl, q⟩⟩
    | str x => exact ⟨_, rfl, _, _, .type "str", .type "int", false, rfl, .ty _, .base (.str x), kit_ty (by decide +kernel), _, rfl, iteF q⟩
    | byt b => exact hv.elim
    | flt b => exact hv.elim
    | ref a => exact hv.elim
    | ty n => exact hv.elim
def spBetween : Sp := fun vs H Q _ => ∃ (v : V) (a b : Int), vs = [v, .int a, .int b] ∧ Sc v ∧ Q (.bl (btw v a b)) H
theorem scBetween : FnScope ["value", "least", "most"] ["value", "least", "most"] (defScope sBetween) := ⟨rfl, rfl, rfl, by decide +kernel, rfl, by decide +kernel, by decide +kernel⟩
theorem ok_between {f : Addr} {fd : FuncData} (F : Fun K "is_between" "is_between" sBetween f fd) (CI : Cl P w K mg base CX0 1 "is_integer" ["value"] spInteger) : FnOk P w K mg base CX0 2 f fd ["value", "least", "most"] spBetween := by
  refine F.ok scBetween (fun vs H Q E h => ?_) (fun cdv A outer s H vs Q E hr h => ?_)
  · obtain ⟨v, a, b, rfl, _⟩ := h
    rfl
  · obtain ⟨v, a, b, rfl, hv, q⟩ := h
    refine ⟨_, pss_one (ps_ret (pe_and (pe_cl0 CI hr (pa_cons (pv 0) pa_nil)) (pe_one (pe_chain op_le op_le (pv 1) (pv 0) (pv 2))))), ?_⟩
    refine ⟨_, rfl, v, rfl, hv, _, rfl, ?_⟩
    cases v with
    | int i =>
      refine iteT ⟨_, rfl, _, rfl, a, i, rfl, rfl, _, rfl, ite2 (fun c => ?_) (fun c => ?_)⟩
      · refine ⟨_, rfl, i, b, rfl, rfl, ?_⟩
        have e : btw (.int i) a b = decide (i ≤ b) := by
          unfold btw
          show (decide (a ≤ i) && decide (i ≤ b)) = decide (i ≤ b)
          rw [c, Bool.true_and]
        rw [e] at q
        exact q
      · have e : btw (.int i) a b = false := by
          unfold btw
          show (decide (a ≤ i) && decide (i ≤ b)) = false
          rw [Bool.eq_false_iff.mpr c, Bool.false_and]
        rw [e] at q
        exact q
    | non => exact iteF q
    | bl x => exact iteF q
    | str x => exact iteF q
    | byt b => exact hv.elim
    | flt b => exact hv.elim
    | ref a => exact hv.elim
    | ty n => exact hv.elim
/-! ### is_list of a tuple -/
def spIsList : Sp := fun vs H Q _ => ∃ (t : Addr) (xs : List V), vs = [.ref t] ∧ H t = some (.tup xs) ∧ ∀ H', Same H H' → Q (.bl true) H'
theorem scIsList : FnScope ["value"] ["value"] (defScope sIsList) := ⟨rfl, rfl, rfl, by decide +kernel, rfl, by decide +kernel, by decide +kernel⟩
theorem ok_islist {f : Addr} {fd : FuncData} (F : Fun K "is_list" "is_list" sIsList f fd) (B : Blt mg) : FnOk P w K mg base CX0 1 f fd ["value"] spIsList := by
  refine F.ok scIsList (fun vs H Q E h => ?_) (fun cdv A outer s H vs Q E hr h => ?_)
  · obtain ⟨t, xs, rfl, _⟩ := h
    rfl
  · obtain ⟨t, xs, rfl, hT, q⟩ := h
    refine ⟨_, pss_one (ps_ret (pe_callB call_isiT (by rfl) B.isi bt_isi (pa_cons (pv 0) (pa_cons (pe_tup (pa_cons (pe_bltn (v := .ty "list") (by rfl) B.list bt_list rfl) (pa_cons (pe_bltn (v := .ty "tuple") (by rfl) B.tuple bt_tuple rfl) pa_nil))) pa_nil)))), ?_⟩
    refine ⟨_, rfl, (by show 2 ≤ sizeLine; decide), fun p hp => ?_⟩
    have s := same_upd (o := .tup [.ty "list", .ty "tuple"]) hp
    refine ⟨.ref t, p, [.ty "list", .ty "tuple"], .type "tuple", [.type "list", .type "tuple"], true, rfl, upd_same, .cons (.ty _) (.cons (.ty _) .nil), .base (.tup (s _ _ hT)), ?_, q _ s⟩
    exact kitAny_cons (kit_ty (r := false) (by decide +kernel)) (fun _ => kitAny_cons (kit_ty (r := true) (by decide +kernel)) (fun z => nomatch z) fun _ => rfl) fun z => nomatch z
/-! ### check_part where it tells of nothing -/
def spPart : Sp := fun vs H Q _ => ∃ (v a b : Int) (x : Str), vs = [.int v, .int a, .int b, .str x] ∧ a ≤ v ∧ v ≤ b ∧ Q .non H
theorem scPart : FnScope ["value", "least", "most", "word"] ["value", "least", "most", "word"] (defScope sPart) := ⟨rfl, rfl, rfl, by decide +kernel, rfl, by decide +kernel, by decide +kernel⟩
theorem btw_true {v a b : Int} (h1 : a ≤ v) (h2 : v ≤ b) : btw (.int v) a b = true := by
  unfold btw
  show (decide (a ≤ v) && decide (v ≤ b)) = true
  rw [decide_eq_true h1, decide_eq_true h2]
  rfl
theorem ok_part {f : Addr} {fd : FuncData} (F : Fun K "check_part" "check_part" sPart f fd) (CB : Cl P w K mg base CX0 2 "is_between" ["value", "least", "most"] spBetween) : FnOk P w K mg base CX0 3 f fd ["value", "least", "most", "word"] spPart := by
  refine F.ok scPart (fun vs H Q E h => ?_) (fun cdv A outer s H vs Q E hr h => ?_)
  · obtain ⟨v, a, b, x, rfl, _⟩ := h
    rfl
  · obtain ⟨v, a, b, x, rfl, h1, h2, q⟩ := h
    refine ⟨_, pss_one (ps_if (pt_not (pt_val (pe_cl0 CB hr (pa_cons (pv 0) (pa_cons (pv 1) (pa_cons (pv 2) pa_nil)))))) (pss_one ps_never) pss_nil), ?_⟩
    refine ⟨_, rfl, _, rfl, _, rfl, .int v, a, b, rfl, trivial, _, rfl, ?_⟩
    rw [btw_true h1 h2]
    exact iteF q
/-! ### the lull -/
/-- its attributes, in the order in which __init__ stores them -/
def lf (D T L Z : Int) : List (Str × V) := putF "quiet" (.int Z) (putF "losses" (.int L) (putF "turn" (.int T) (putF "delay" (.int D) [])))
theorem lf_quiet (D T L Z : Int) : (lf D T L Z).lookup ("quiet" : Str) = some (.int Z) := by
  unfold lf
  rw [lookup_putF, if_pos rfl]
theorem lf_losses (D T L Z : Int) : (lf D T L Z).lookup ("losses" : Str) = some (.int L) := by
  unfold lf
  rw [lookup_putF, if_neg (by decide +kernel), lookup_putF, if_pos rfl]
theorem lf_turn (D T L Z : Int) : (lf D T L Z).lookup ("turn" : Str) = some (.int T) := by
  unfold lf
  rw [lookup_putF, if_neg (by decide +kernel), lookup_putF, if_neg (by decide +kernel), lookup_putF, if_pos rfl]
theorem lf_delay (D T L Z : Int) : (lf D T L Z).lookup ("delay" : Str) = some (.int D) := by
  unfold lf
  rw [lookup_putF, if_neg (by decide +kernel), lookup_putF, if_neg (by decide +kernel), lookup_putF, if_neg (by decide +kernel), lookup_putF, if_pos rfl]
/-- what the walk asks of the class -/
structure LT (K : PySem.W.Frag) (C : Addr) : Prop where
  cl : Cls K C
  nD : NoAttr K C "delay"
  nT : NoAttr K C "turn"
  nL : NoAttr K C "losses"
  nZ : NoAttr K C "quiet"
/-- a lull stands at p -/
def LullAt (C : Addr) (H : Hp) (p : Addr) (D T L Z : Int) : Prop := ∃ dx, H p = some (.ins C dx (lf D T L Z))
theorem LullAt.same {C : Addr} {H H' : Hp} {p : Addr} {D T L Z : Int} (h : LullAt C H p D T L Z) (s : Same H H') : LullAt C H' p D T L Z := by
  obtain ⟨dx, e⟩ := h
  exact ⟨dx, s _ _ e⟩
def spLullI (C : Addr) : Sp := fun vs H Q _ => ∃ (p dx : Addr) (D T L Z : Int), vs = [.ref p, .int D, .int T, .int L, .int Z] ∧ H p = some (.ins C dx []) ∧ LOk D T L Z ∧
  ∀ H', LullAt C H' p D T L Z → (∀ b o, H b = some o → b ≠ p → H' b = some o) → Q .non H'
theorem scLullI : FnScope ["self", "delay", "turn", "losses", "quiet"] ["self", "delay", "turn", "losses", "quiet"] (defScope sLullI) := ⟨rfl, rfl, rfl, by decide +kernel, rfl, by decide +kernel, by decide +kernel⟩
theorem ok_lulli {f C : Addr} {fd : FuncData} (F : Fun K "__init__" "Lull.__init__" sLullI f fd) (T0 : LT K C) (N : Cst mg) (CP : Cl P w K mg base CX0 3 "check_part" ["value", "least", "most", "word"] spPart) : FnOk P w K mg base CX0 4 f fd ["self", "delay", "turn", "losses", "quiet"] (spLullI C) := by
  refine F.ok scLullI (fun vs H Q E h => ?_) (fun cdv A outer s H vs Q E hr h => ?_)
  · obtain ⟨p, dx, D, T, L, Z, rfl, _⟩ := h
    rfl
  · obtain ⟨p, dx, D, T, L, Z, rfl, hp, ⟨o1, o2, o3, o4, o5, o6, o7, o8⟩, q⟩ := h
    refine ⟨_, pss_cons (ps_expr (pe_cl0 CP hr (pa_cons (pv 1) (pa_cons pe_int (pa_cons (pe_num N.delay) (pa_cons pe_str pa_nil))))))
      (pss_cons (ps_expr (pe_cl0 CP hr (pa_cons (pv 2) (pa_cons (pe_op op_mul pe_int (pv 1)) (pa_cons (pe_num N.turn) (pa_cons pe_str pa_nil))))))
      (pss_cons (ps_expr (pe_cl0 CP hr (pa_cons (pv 3) (pa_cons pe_int (pa_cons (pe_num N.losses) (pa_cons pe_str pa_nil))))))
      (pss_cons (ps_expr (pe_cl0 CP hr (pa_cons (pv 4) (pa_cons pe_int (pa_cons (pe_num N.quiet) (pa_cons pe_str pa_nil))))))
      (pss_cons (ps_fld (pv 0) (pv 1) rfl) (pss_cons (ps_fld (pv 0) (pv 2) rfl) (pss_cons (ps_fld (pv 0) (pv 3) rfl) (pss_one (ps_fld (pv 0) (pv 4) rfl)))))))), ?_⟩
    refine ⟨_, rfl, D, 1, 50, _, rfl, o1, by omega, ?_⟩
    refine ⟨_, rfl, _, rfl, 2, D, rfl, rfl, .inl ⟨by decide, by decide⟩, T, 2 * D, 200, _, rfl, o3, by omega, ?_⟩
    refine ⟨_, rfl, L, 1, 3, _, rfl, o5, o6, ?_⟩
    refine ⟨_, rfl, Z, 1, 500, _, rfl, o7, by omega, ?_⟩
    have l1 := length_putF "delay" (.int D) []
    have l2 := length_putF "turn" (.int T) (putF "delay" (.int D) [])
    have l3 := length_putF "losses" (.int L) (putF "turn" (.int T) (putF "delay" (.int D) []))
    have l0 : ([] : List (Str × V)).length = 0 := rfl
    refine ⟨_, rfl, _, rfl, p, C, dx, [], rfl, hp, T0.cl, T0.nD, (by show 0 < 1000; decide), ?_⟩
    refine ⟨_, rfl, _, rfl, p, C, dx, _, rfl, upd_same, T0.cl, T0.nT, (by omega), ?_⟩
    refine ⟨_, rfl, _, rfl, p, C, dx, _, rfl, upd_same, T0.cl, T0.nL, (by omega), ?_⟩
    refine ⟨_, rfl, _, rfl, p, C, dx, _, rfl, upd_same, T0.cl, T0.nZ, (by omega), ?_⟩
    refine q _ ⟨dx, upd_same⟩ fun b o e hb => ?_
    rw [upd_ne hb, upd_ne hb, upd_ne hb, upd_ne hb]
    exact e
/-! ### the signs of a period -/
def spSigns (C : Addr) : Sp := fun vs H Q _ => ∃ (l : Addr) (D T L Z p : Int), vs = [.ref l, .int p] ∧ LullAt C H l D T L Z ∧ LOk D T L Z ∧ 1 ≤ p ∧ p ≤ 200 ∧ ∀ (t : Addr) (H' : Hp), Same H H' → H' t = some (.tup ((sgn Z p).map V.int)) → Q (.ref t) H'
theorem scSigns : FnScope ["lull", "period"] ["lull", "period"] (defScope sSigns) := ⟨rfl, rfl, rfl, by decide +kernel, rfl, by decide +kernel, by decide +kernel⟩
theorem rg_ok {z p : Int} (hp : 1 ≤ p) (hp2 : p ≤ 200) (hz : z ≤ 24) (hz1 : 1 ≤ z) : RgCOk p z p (Builtin.Range.rangeSize p z p).toNat := by
  have h1 := rs_nn (z := z) (p := p) (by omega)
  have h2 := sgn_small (z := z) (p := p) (by omega) hz
  rw [sgn_len] at h2
  refine ⟨?_, by omega, by omega⟩
  have fl : ∀ x : Int, 0 ≤ x → x ≤ 1000 → Builtin.Range.rangeFitsLong x = true := fun x h1 h2 => by
    unfold Builtin.Range.rangeFitsLong
    simp only [Bool.and_eq_true, decide_eq_true_eq]
    omega
  unfold Builtin.Range.small
  rw [fl p (by omega) (by omega), fl z (by omega) (by omega), fl (Builtin.Range.rangeSize p z p) h1 (by omega), if_pos (show p > 0 by omega), fl (z + (p - 1)) (by omega) (by omega), Bool.or_true]
  rfl
theorem ok_signs {f C : Addr} {fd : FuncData} (F : Fun K "period_signs" "period_signs" sSigns f fd) (B : Blt mg) (T0 : LT K C) (N : Cst mg) (CB : Cl P w K mg base CX0 2 "is_between" ["value", "least", "most"] spBetween) : FnOk P w K mg base CX0 3 f fd ["lull", "period"] (spSigns C) := by
  refine F.ok scSigns (fun vs H Q E h => ?_) (fun cdv A outer s H vs Q E hr h => ?_)
  · obtain ⟨l, D, T, L, Z, p, rfl, _⟩ := h
    rfl
  · obtain ⟨l, D, T, L, Z, p, rfl, ⟨dx, hl⟩, ⟨o1, o2, o3, o4, o5, o6, o7, o8⟩, hp, hp2, q⟩ := h
    refine ⟨_, pss_cons (ps_if (pt_not (pt_val (pe_cl0 CB hr (pa_cons (pv 1) (pa_cons pe_int (pa_cons (pe_num N.period) pa_nil)))))) (pss_one ps_never) pss_nil)
      (pss_one (ps_ret (pe_tupRgC rfl (by rfl) B.tuple (prg_3 (by rfl) B.range (pa_cons (pv 1) (pa_cons (pe_fld (pv 0) rfl) (pa_cons (pv 1) pa_nil))))))), ?_⟩
    refine ⟨_, rfl, .int p, 1, 200, rfl, trivial, _, rfl, ?_⟩
    rw [btw_true hp hp2]
    refine iteF ?_
    refine ⟨_, rfl, .ref l, rfl, l, C, dx, _, _, rfl, hl, T0.cl, T0.nZ, lf_quiet D T L Z, _, rfl, p, Z, p, rfl, ⟨by omega, by omega⟩, _, rg_ok hp hp2 o8 o7, fun t ht => ?_⟩
    refine q t _ (same_upd ht) ?_
    rw [upd_same, rgVC_sgn]
end
end GP
/-! Good periods: the program's stops and quiet gap. -/
namespace GP
open PySem PySem.Spec PyProof.Rows L2
section
variable {P : Program} {w : World} {K : PySem.W.Frag} {mg : Str → Option Value} {base : Heap}
/-! ### checked_signs -/
def spChecked (C : Addr) : Sp := fun vs H Q _ => ∃ (l t : Addr) (D T L Z p : Int), vs = [.ref l, .ref t] ∧ LullAt C H l D T L Z ∧ LOk D T L Z ∧ 1 ≤ p ∧ H t = some (.tup ((sgn Z p).map V.int)) ∧ ∀ H', Same H H' → Q (.ref t) H'
abbrev nChecked : List Str := ["lull", "signs", "ahead", "index", "sign"]
theorem scChecked : FnScope nChecked ["lull", "signs"] (defScope sChecked) := ⟨rfl, rfl, rfl, by decide +kernel, rfl, by decide +kernel, by decide +kernel⟩
theorem sgn_at {z p : Int} {i : Nat} {x : V} (h : ((sgn z p).map V.int)[i]? = some x) : i < (sgn z p).length ∧ x = V.int (p + (i : Int) * p) := by
  rw [List.getElem?_map] at h
  by_cases hi : i < (sgn z p).length
  · rw [sgn_get hi] at h
    exact ⟨hi, (Option.some.inj h).symm⟩
  · rw [List.getElem?_eq_none (by omega)] at h
    cases h
theorem ok_checked {f C : Addr} {fd : FuncData} (F : Fun K "checked_signs" "checked_signs" sChecked f fd) (B : Blt mg) (T0 : LT K C) (CB : Cl P w K mg base CX0 2 "is_between" ["value", "least", "most"] spBetween) (CL : Cl P w K mg base CX0 1 "is_list" ["value"] spIsList) :
    FnOk P w K mg base CX0 3 f fd ["lull", "signs"] (spChecked C) := by
  refine F.ok scChecked (fun vs H Q E h => ?_) (fun cdv A outer s H vs Q E hr h => ?_)
  · obtain ⟨l, t, D, T, L, Z, p, rfl, _⟩ := h
    rfl
  · obtain ⟨l, t, D, T, L, Z, p, rfl, hL, ok, hp, hT, q⟩ := h
    refine ⟨_, pss_cons (ps_if (pt_not (pt_val (pe_cl0 CL hr (pa_cons (pv 1) pa_nil)))) (pss_one ps_never) pss_nil)
      (pss_cons (ps_set (i := 2) scChecked.nd rfl (.inl rfl) pe_int)
      (pss_cons (ps_for PassesOwn.never rfl (pi_enumT (by rfl) B.enum (pa_cons (pv 1) pa_nil)) (pg_tup rfl (pgs_cons (pg_name (i := 3) scChecked.nd rfl (.inl rfl)) (pgs_cons (pg_name (i := 4) scChecked.nd rfl (.inl rfl)) pgs_nil)))
        (pss_cons (ps_if (pt_not (pt_val (pe_cl0 CB hr (pa_cons (pv 4) (pa_cons (pe_op op_add (pv 2) pe_int) (pa_cons (pe_op op_sub (pe_fld (pv 0) rfl) pe_int) pa_nil)))))) (pss_one ps_never) pss_nil)
        (pss_one (ps_set (i := 2) scChecked.nd rfl (.inl rfl) (pv 4)))))
      (pss_one (ps_ret (pe_callTy call_tupleT (by rfl) B.tuple bt_tuple (pa_cons (pv 1) pa_nil)))))), ?_⟩
    refine ⟨_, rfl, t, _, rfl, hT, fun H1 s1 => ⟨_, rfl, iteF ?_⟩⟩
    refine ⟨_, rfl, t, _, rfl, Same.tup s1 (tup_of hT), for_enumT (K := K) (a := t) (xs := (sgn Z p).map V.int) (fun i σ H' => ∃ v3 v4 : Option V, σ = [some (.ref l), some (.ref t), some (.int ((i : Int) * p)), v3, v4] ∧ Same H H')
      ⟨none, none, by rw [show ((0 : Nat) : Int) * p = 0 by omega]; rfl, s1⟩ (fun i σ H' _ ⟨_, _, _, s⟩ => Same.tup s (tup_of hT)) ?_ ?_⟩
    · rintro i x σ H2 a hi ⟨v3, v4, rfl, s2⟩ ha
      obtain ⟨hlt, rfl⟩ := sgn_at hi
      have s3 := s2.trans (same_upd (o := .tup [.int (i : Nat), V.int (p + (i : Int) * p)]) ha)
      obtain ⟨dx, hl⟩ := hL.same s3
      have hz := sgn_lt (z := Z) (p := p) (by omega) hlt
      refine ⟨a, _, rfl, tup_of upd_same, rfl, _, _, rfl, _, _, rfl, rfl, ?_⟩
      refine ⟨_, rfl, _, rfl, _, 1, rfl, rfl, .ref l, rfl, l, C, dx, _, _, rfl, hl, T0.cl, T0.nZ, lf_quiet D T L Z, Z, 1, rfl, rfl, .int (p + (i : Int) * p), (i : Int) * p + 1, Z - 1, rfl, trivial, _, rfl, ?_⟩
      rw [btw_true (show (i : Int) * p + 1 ≤ p + (i : Int) * p by omega) (by omega)]
      refine iteF ?_
      refine ⟨_, rfl, some (.int (i : Int)), some (.int (p + (i : Int) * p)), ?_, s3⟩
      rw [show (((i + 1 : Nat) : Int)) * p = p + (i : Int) * p by rw [Int.natCast_add, Int.add_mul]; omega]
      rfl
    · rintro σ H2 ⟨v3, v4, rfl, s2⟩
      exact ⟨_, rfl, t, _, rfl, Same.tup s2 (tup_of hT), q H2 s2⟩
/-! ### stops -/
def spStops (C : Addr) : Sp := fun vs H Q _ => ∃ (l t : Addr) (D T L Z p : Int), vs = [.ref l, .ref t] ∧ LullAt C H l D T L Z ∧ LOk D T L Z ∧ 1 ≤ p ∧ H t = some (.tup ((sgn Z p).map V.int)) ∧
  ∀ (r : Addr) H', Same H H' → H' r = some (.tup ((stops D T L Z (sgn Z p)).map V.int)) → Q (.ref r) H'
abbrev nStops : List Str := ["lull", "signs", "found", "turn"]
theorem scStops : FnScope nStops ["lull", "signs"] (defScope sStops) := ⟨rfl, rfl, rfl, by decide +kernel, rfl, by decide +kernel, by decide +kernel⟩
theorem same_list {H H' : Hp} {p : Addr} {u : HO} (s : Same H H') (hp : H p = none) : Same H (upd H' p u) := fun b x e => by
  rw [upd_ne (ne_of_none e hp)]
  exact s b x e
theorem ok_stops {f C : Addr} {fd : FuncData} (F : Fun K "stops" "stops" sStops f fd) (B : Blt mg) (T0 : LT K C) (CC : Cl P w K mg base CX0 3 "checked_signs" ["lull", "signs"] (spChecked C)) :
    FnOk P w K mg base CX0 4 f fd ["lull", "signs"] (spStops C) := by
  refine F.ok scStops (fun vs H Q E h => ?_) (fun cdv A outer s H vs Q E hr h => ?_)
  · obtain ⟨l, t, D, T, L, Z, p, rfl, _⟩ := h
    rfl
  · obtain ⟨l, t, D, T, L, Z, p, rfl, hL, ok, hp, hT, q⟩ := h
    obtain ⟨o1, o2, o3, o4, o5, o6, o7, o8⟩ := id ok
    obtain ⟨dx, hl⟩ := id hL
    have hlen := sgn_small (z := Z) (show 0 < p by omega) o8
    refine ⟨_, pss_cons (ps_set (i := 2) scStops.nd rfl (.inl rfl) (pe_lst (pa_cons (pe_op op_mul (pe_un un_neg pe_int) (pe_fld (pv 0) rfl)) pa_nil)))
      (pss_cons (ps_expr (pe_bm PySem.F.plainAttrs_list PySem.F.slot_list_extend PySem.F.type_list_extend mt_extendT (pv 2) (pa_cons (pe_cl0 CC hr (pa_cons (pv 0) (pa_cons (pv 1) pa_nil))) pa_nil)))
      (pss_cons (ps_for PassesOwn.never rfl (pi_range1 (by rfl) B.range (pa_cons (pe_op op_add (pe_fld (pv 0) rfl) pe_int) pa_nil)) (pg_name (i := 3) scStops.nd rfl (.inl rfl))
        (pss_one (ps_expr (pe_bm PySem.F.plainAttrs_list PySem.F.slot_list_append PySem.F.type_list_append mt_append (pv 2) (pa_cons (pe_op op_add (pe_fld (pv 0) rfl) (pe_op op_mul (pv 3) (pe_fld (pv 0) rfl))) pa_nil)))))
      (pss_one (ps_ret (pe_callTy call_tuple_of (by rfl) B.tuple bt_tuple (pa_cons (pv 2) pa_nil)))))), ?_⟩
    -- found = [-2 * lull.delay]
    refine ⟨2, rfl, .ref l, rfl, l, C, dx, _, _, rfl, hl, T0.cl, T0.nD, lf_delay D T L Z, -2, D, rfl, rfl, .inl ⟨by decide, by decide⟩, leLine (by show 1 ≤ 1000000; decide), fun o no => ?_⟩
    have s1 := same_upd (o := .lst [V.int (-2 * D)]) no
    -- found.extend(checked_signs(lull, signs))
    refine ⟨.ref o, rfl, .inl ⟨rfl, _, seq_of upd_same⟩, _, rfl, _, rfl, l, t, D, T, L, Z, p, rfl, hL.same s1, ok, hp, s1 _ _ hT, fun H2 s2 => ?_⟩
    have s12 := s1.trans s2
    have e2 := s2 _ _ (upd_same (H := H) (a := o) (o := .lst [V.int (-2 * D)]))
    refine ⟨o, t, _, _, rfl, rfl, e2, s12 _ _ hT, leLine (by rw [List.length_map]; show 1 + _ ≤ 1000000; omega), ?_⟩
    have s3 : Same H (upd H2 o (.lst ([V.int (-2 * D)] ++ (sgn Z p).map V.int))) := same_list s12 no
    obtain ⟨dx3, hl3⟩ := hL.same s3
    refine ⟨.ref l, rfl, l, C, dx3, _, _, rfl, hl3, T0.cl, T0.nL, lf_losses D T L Z, L, 1, rfl, rfl, L + 1, rfl, by omega, by omega, ?_⟩
    refine for_range (lo := 0) (n := (L + 1).toNat) (fun i σ H' => ∃ v3 : Option V, σ = [some (.ref l), some (.ref t), some (.ref o), v3] ∧ Same H H' ∧ H' o = some (.lst (([V.int (-2 * D)] ++ (sgn Z p).map V.int) ++ (tailS T Z i).map V.int)))
      ⟨none, rfl, s3, by rw [upd_same]; simp [tailS]⟩ ?_ ?_
    · rintro i σ H4 hi ⟨v3, rfl, s4, e4⟩
      obtain ⟨dx4, hl4⟩ := hL.same s4
      refine ⟨.ref o, rfl, .inl ⟨rfl, _, seq_of e4⟩, .ref l, rfl, l, C, dx4, _, _, rfl, hl4, T0.cl, T0.nZ, lf_quiet D T L Z, _, rfl, .ref l, rfl, l, C, dx4, _, _, rfl, hl4, T0.cl, T0.nT, lf_turn D T L Z, _, T, rfl, rfl, .inr ⟨by omega, by omega⟩, Z, _, rfl, rfl, o, _, _, rfl, rfl, e4, ?_, ?_⟩
      · refine ltLine ?_
        rw [List.length_append, List.length_append, List.length_map, List.length_map, tailS_len]
        show 1 + _ + _ ≤ 1000000
        omega
      · refine ⟨_, rfl, same_list s4 no, ?_⟩
        rw [upd_same, tailS_succ, snoc_map, List.append_assoc]
    · rintro σ H4 ⟨v3, rfl, s4, e4⟩
      refine ⟨.ref o, rfl, o, _, rfl, .inl ⟨seq_of e4, fun r hr4 => ?_⟩⟩
      refine q r _ (s4.trans (same_upd hr4)) ?_
      rw [upd_same, stops_map]
      rfl
/-! ### quiet_gap -/
theorem atT {ns : List Int} {z : Int} {j : Nat} (e : z = (j : Int)) (h : j < ns.length) : atI (ns.map V.int) z = some (V.int (ns.getD j 0)) := atS e h
def spGap (C : Addr) : Sp := fun vs H Q _ => ∃ (l t : Addr) (D T L Z p : Int), vs = [.ref l, .ref t] ∧ LullAt C H l D T L Z ∧ LOk D T L Z ∧ 1 ≤ p ∧ H t = some (.tup ((sgn Z p).map V.int)) ∧ ∀ H', Same H H' → Q (.int (gap D T L Z p)) H'
abbrev nGap : List Str := ["lull", "signs", "found", "step", "place"]
theorem scGap : FnScope nGap ["lull", "signs"] (defScope sGap) := ⟨rfl, rfl, rfl, by decide +kernel, rfl, by decide +kernel, by decide +kernel⟩
theorem ok_gap {f C : Addr} {fd : FuncData} (F : Fun K "quiet_gap" "quiet_gap" sGap f fd) (B : Blt mg) (T0 : LT K C) (CS : Cl P w K mg base CX0 4 "stops" ["lull", "signs"] (spStops C)) :
    FnOk P w K mg base CX0 5 f fd ["lull", "signs"] (spGap C) := by
  refine F.ok scGap (fun vs H Q E h => ?_) (fun cdv A outer s H vs Q E hr h => ?_)
  · obtain ⟨l, t, D, T, L, Z, p, rfl, _⟩ := h
    rfl
  · obtain ⟨l, t, D, T, L, Z, p, rfl, hL, ok, hp, hT, q⟩ := h
    obtain ⟨o1, o2, o3, o4, o5, o6, o7, o8⟩ := id ok
    have hlen := sgn_small (z := Z) (show 0 < p by omega) o8
    refine ⟨_, pss_cons (ps_set (i := 2) scGap.nd rfl (.inr rfl) (pe_cl0 CS hr (pa_cons (pv 0) (pa_cons (pv 1) pa_nil))))
      (pss_cons (ps_set (i := 3) scGap.nd rfl (.inr rfl) (pe_op op_add (pe_fld (pv 0) rfl) pe_int))
      (pss_one (ps_ret (pe_callB (cr_max rfl) (by rfl) B.max bt_max (pa_cons
        (pe_lc (own := [("place", 4)]) (g := gName 4) (tt := tYes) rfl scGap.nd (pi_range1 (by rfl) B.range (pa_cons (pe_op op_add (pe_len B (pv 1)) pe_int) pa_nil)) (blkOk_by (N := nGap) (sc := defScope sGap) (by decide +kernel))
          (fun _ _ _ _ _ => pg_name (i := 4) scGap.nd rfl (.inl rfl)) (fun _ _ _ _ _ => pts_nil) (fun _ _ _ _ _ => pe_toInt B (pe_op op_sub (pe_ixTK K rfl (pv 2) (pe_op op_add (pv 4) (pv 3))) (pe_ixTK K rfl (pv 2) (pv 4)))))
        pa_nil))))), ?_⟩
    obtain ⟨fs, hfs⟩ : ∃ fs, stops D T L Z (sgn Z p) = fs := ⟨_, rfl⟩
    obtain ⟨k, hk⟩ : ∃ k, (L + 1).toNat = k := ⟨_, rfl⟩
    obtain ⟨n, hn⟩ : ∃ n, (sgn Z p).length + 1 = n := ⟨_, rfl⟩
    have hfl : fs.length = n + k := by
      rw [← hfs, stops_len, hk, ← hn]
      omega
    have hk1 : L + 1 = (k : Int) := by omega
    refine ⟨_, rfl, _, rfl, l, t, D, T, L, Z, p, rfl, hL, ok, hp, hT, fun r H1 s1 e1 => ?_⟩
    rw [hfs] at e1
    obtain ⟨dx, hl⟩ := hL.same s1
    refine ⟨.ref l, rfl, l, C, dx, _, _, rfl, hl, T0.cl, T0.nL, lf_losses D T L Z, L, 1, rfl, rfl, ?_⟩
    refine ⟨_, rfl, t, _, rfl, .inr (Same.tup s1 (tup_of hT)), _, 1, rfl, rfl, _, rfl, ?_⟩
    rw [List.length_map]
    refine ⟨by omega, by omega, fun p4 h4 => ?_⟩
    have en : (((sgn Z p).length : Int) + 1).toNat = n := by omega
    rw [en]
    refine lc_range (lo := 0) (n := n) (fun i H' => Same H1 H' ∧ H' p4 = some (.lst (((diffs fs k n).take i).map V.int))) ⟨same_upd h4, by rw [upd_same]; rfl⟩ ?_ ?_
    · rintro i H2 hi ⟨s2, e2⟩
      have hR : SqT K H2 r (fs.map V.int) := tup_of (s2 _ _ e1)
      refine ⟨rfl, .ref r, rfl, _, rfl, _, rfl, _, L + 1, rfl, rfl, r, _, _, _, rfl, rfl, hR, atT (j := i + k) (by omega) (by omega), .ref r, rfl, _, rfl, r, _, _, _, rfl, rfl, hR, atT (j := i) (by omega) (by omega), _, _, rfl, rfl, .inl ⟨_, rfl, _, e2, ?_, ?_, ?_⟩⟩
      · rw [List.length_map, List.length_take, diffs_len]
        exact ltLine (by omega)
      · intro c x hx
        rw [upd_ne (ne_of_none hx h4)]
        exact s2 c x hx
      · rw [upd_same, diffs_take fs hi, snoc_map]
    · rintro H2 ⟨s2, e2⟩
      rw [List.take_of_length_le (by rw [diffs_len]; exact Nat.le_refl _)] at e2
      refine ⟨p4, diffs fs k n, rfl, seq_of e2, by rw [diffs_len]; omega, fun m hm hb => ?_⟩
      have em : m = gap D T L Z p := by
        unfold gap
        rw [hfs, hk, hn]
        exact mx_is hm hb
      rw [em]
      exact q H2 (s1.trans s2)
end
end GP
/-! Good periods: BadNumber(e), an own exception whose __init__ says super().__init__(number); self.number = number. -/
namespace GP
open PySem PySem.Spec PyProof.Rows L2
/-- what the written part says of BadNumber, at C, and of its __init__, at fI -/
structure NumTxt (prog : Program) (K : PySem.W.Frag) (mg : Str → Option Value) (C fI : Addr) : Prop where
  gC : mg "BadNumber" = some (.ref C)
  cls : ∃ nm q N bs bm sn sub ab col dd k0 k1 k2 k3 k5, K.lookup C = some (excClassObj nm q C N bs bm true sn sub ab col dd k0 k1 k2 k3 k5 "ValueError.__new__") ∧ HandSPX.refsVE bm = true
  sa : PySem.W.findIn K (.ref C) "__setattr__" = some (some (.builtin "object.__setattr__"))
  ga : PySem.W.findIn K (.ref C) "__getattribute__" = some (some (.builtin "BaseException.__getattribute__"))
  gg : PySem.W.findIn K (.ref C) "__getattr__" = some none
  noN : PySem.W.findIn K (.ref C) "number" = some none
  iC : PySem.W.findIn K (.ref C) "__init__" = some (some (.ref fI))
  tC : PySem.W.typeIn K (.ref fI) = some (.type "function")
  kC : PySem.W.keepIn K (.ref C) = true
  exC : PySem.W.subIn K (.ref C) (.type "BaseException") = some true
  veC : PySem.W.subIn K (.ref C) (.type "ValueError") = some true
  ownC : PySem.W.mroIn K C (.ref C) = some true
  tyC : PySem.W.typeIn K (.ref C) = some (.type "type")
  hdC : PySem.W.hasDictIn K C = true
  te : PySem.W.exmOne K (.ref C) (.ref C) = some true
  sup : mg "super" = none
  opq : PySem.W.nsIn K PySem.cStatics "thirdparty.any" = some none
  sIn : PySem.W.ks_superIn K C C "__init__" = some (some (.builtin "ValueError.__init__"))
  fn : ∃ (oc : Value) (od : Option Addr) (doc pm : Value) (an : Option Addr) (cda cc : Addr) (ct : Value) (osl : Array (Option Value)) (ccl : Value) (cdd : Option Addr) (vs : Array Value) (ccs : Array (Option Value)) (file : Str) (tf : Tok) (cl : Value) (cld : Option Addr) (csl : Array (Option Value)),
    K.lookup fI = some ⟨oc, od, .func (PySem.W.ksFn "__init__" "BadNumber.__init__" (defArgs sNumI) (defBody sNumI) (defScope sNumI) .none .none doc pm an (.ref cda) ct cc), osl⟩ ∧ PySem.W.codeIn K (.ref cda) "BadNumber.__init__" = true ∧
    K.lookup cda = some ⟨ccl, cdd, .fields vs, ccs⟩ ∧ vs[2]? = some (.str file tf) ∧ ((prog.main.file : Str) == file) = true ∧ K.lookup cc = some ⟨cl, cld, .cell (some (.ref C)), csl⟩
  top : (prog.main.scope.names.lookup ("super" : Str)).isSome = false
/-- what __init__ leaves of a fresh exception at x -/
structure NumEnd (h h' : Heap) (x C dx : Addr) (v : Value) : Prop where
  keep : ∀ b o, b ≠ x → h.get? b = some o → h'.get? b = some o
  obj : ∃ t1 : Addr, h'.get? x = some { cls := .ref C, dict := some dx, data := .fields #[.ref t1, .none, .none, .none, .bool false, .none] }
  dbig : h.objs.size ≤ dx
  dne : dx ≠ x
  ns : h'.Ns1 dx (fun y => if y = "number" then some v else none)
section
open PySem.W PySem.Calls
variable {prog : Program} {w : World} {A : Around} {E : Value → Shared → Prop} {R : Result → Shared → Prop} {s : Shared} {K : Frag} {mg : Str → Option Value} {C fI : Addr}
/-- the bound ValueError.__init__, called -/
theorem call_bw {nm q : Str} {N e t0 u : Addr} {bs bm : List Value} {sn : List Str} {sub : List Value} {ab : Bool} {col : Option Bool} {dd : Option Addr} {k0 k1 k2 k3 k5 : Option Value} {h : Heap} {g : Array GenState} {d : Drawn} {t : Nat} {os : OsState} {rest : List Value} {Q : Value → Shared → Prop}
    (hC : h.get? C = some (excClassObj nm q C N bs bm true sn sub ab col dd k0 k1 k2 k3 k5 "ValueError.__new__")) (he : h.get? e = some (HandSPX.excO C t0)) (hu : h.get? u = some (kxs_mw "ValueError.__init__" e)) (hrest : rest.length ≤ sizeLine)
    (hq : ∀ h' t1, (∀ b o, b ≠ e → h.get? b = some o → h'.get? b = some o) → h'.get? e = some (HandSPX.excO C t1) → Q .none ⟨h', g, d, t, os⟩) :
    wpAny (model prog w) A (call (.ref u) rest) Q E ⟨h, g, d, t, os⟩ := by
  refine wpAny_call (codeAny_of_tree ?_)
  show wpAny _ A.in1 (callAny (.ref u) ⟨rest, []⟩) _ _ _
  simp only [callAny]
  refine wpAny_bind (wpAny_load hu ?_)
  simp only [kxs_mw, show (Value.type "method-wrapper" == Value.type "method" || Value.type "method-wrapper" == Value.type "builtin_function_or_method" || Value.type "method-wrapper" == Value.type "method-wrapper") = true by decide, if_true]
  refine KFB.if_so (by decide) ?_
  refine wpAny_bind (check_bound_init F.excBase_ValueError.toExcCallFacts hC he rfl ?_)
  refine wpAny_bind (wpAny_pure (wpAny_pure ?_))
  refine ⟨plainId_quiet F.excBase_ValueError.init.plain _, codeAny_builtin F.excBase_ValueError.initEntry ?_⟩
  exact exc_init_tree (cls := .ref C) (t0 := t0) (dv := none) (c2 := .none) (c3 := .none) (b4 := .bool false) he hrest fun h' k e' t' => hq h' _ k e'
theorem bw_callWith1 {M : Model} {pos : Pos} {env : Env} {e : Expr} {rest : List Expr} {u x : Addr} {i : String} {Q : Value → Shared → Prop}
    (h : wpAny M A (spliced (backTo pos (starEach (e :: rest) env))) (fun vs s₁ => KxsAt i u x s₁.heap ∧ wpAny M A (call (.ref u) vs) Q E s₁) E s)
    (he : starEach (e :: rest) env = (false, eval e env) :: starEach rest env := by rfl) (hplain : (backTo pos (starEach rest env)).any (·.1) = false := by rfl) :
    wpAny M A (callWith pos (.ref u) [] (backTo pos (starEach (e :: rest) env)) []) Q E s := by
  rw [he] at h ⊢
  refine kxs_callWith (i := i) (x := x) (by show (false || (backTo pos (starEach rest env)).any (·.1)) = false; rw [hplain]; rfl) ?_
  exact evalArgs_plain h
theorem ldS {M : Model} {name : Str} {scope : Scope} {L a cc : Addr} {cd : Value} {m : Str → Option Value} {x : Str} {pos : Pos} {v : Value} {Q : Value → Shared → Prop} (hn : s.heap.Ns L m) (hv : m x = some v) (h : Q v s)
    (hk : scope.kind = .function := by rfl) (hl : (ksEnv name scope L a cd cc).kindOf x = some .local := by rfl) (hd : (x == ("__debug__" : Str)) = false := by decide) :
    wpAny M A (eval (.Name x pos) (ksEnv name scope L a cd cc)) Q E s := wpAny_Name (wpAny_loadName_local hk hl hn hv h) hd
theorem num_init (T : NumTxt prog K mg C fI) {x t0 : Addr} {v : Value} (X : K.In s.heap) (G : s.heap.Ns mainGlobals mg) (Bn : ∃ mb, s.heap.Ns builtinsNs mb ∧ mb "super" = some (.type "super")) (hlim : s.heap.NoLimit) (hx : s.heap.get? x = some (HandSPX.excO C t0)) (hnx : K.lookup x = none) (hroom : A.depth < recursionLimit)
    (hq : ∀ h' tk dx, NumEnd s.heap h' x C dx v → R (.ok (.ret .none)) { s with heap := h', toks := tk }) :
    codeAny (model prog w) A (.call (.ref fI) ⟨[.ref x, v], []⟩) R s := by
  obtain ⟨oc, od, doc, pm, an, cda, cc, ct, osl, ccl, cdd, vs, ccs, file, tf, cl, cld, csl, ho, hcd, hcode, hvs, hfile, hcell⟩ := T.fn
  obtain ⟨nm, q, N, bs, bm, sn, sub, ab, col, dd, k0, k1, k2, k3, k5, hC, hbm⟩ := T.cls
  obtain ⟨mb, hB, hmb⟩ := Bn
  have hcl : clsIn K C = some { name := nm, bases := bs, mro := .ref C :: bm, ns := N, qualname := q, hasDict := true, slotNames := sn, subclasses := sub, abstract := ab, collection := col, hasDel := false } := by unfold clsIn; rw [hC] <;> rfl
  obtain ⟨hp, g, dr, tk, os⟩ := s
  refine ks_codeAny_call_defAt (binds := [("self", .ref x), ("number", v)]) hroom (X _ _ ho) rfl hlim (codeRec_of X hcd) rfl (BindsTo.of_eq (by first | rfl | with_unfolding_all rfl)) (by show ∀ x ∈ (defScope sNumI).names, x.2 ≠ .cell; decide +kernel) (locs rfl) (fun h0 hns k0' => ?_) rfl rfl rfl
  have hx0 := k0' _ _ hx
  have X0 : K.In h0 := X.keeps k0'
  have hC0 : h0.get? C = some _ := X0 _ _ hC
  -- super().__init__(number)
  refine ks_wpAt_execs_cons (ks_wpAt_Expr_any (ks_wpAt_MethodCall (pl := _) ?_ rfl))
  refine ks_wpAt_super_base (env := ksEnv "BadNumber.__init__" (defScope sNumI) hp.objs.size fI (.ref cda) cc) rfl rfl rfl rfl (k0' _ _ (X _ _ ho)) rfl rfl rfl (X0 _ _ hcode) rfl hvs hfile T.top ?_
  refine ks_loadName_global rfl rfl (loadGlobal_builtin (env := ksEnv "BadNumber.__init__" (defScope sNumI) hp.objs.size fI (.ref cda) cc) (G.keeps k0') T.sup (hB.keeps k0') hmb ⟨rfl, ?_⟩)
  refine wpAny_loadName_free rfl rfl rfl ⟨_, X0 _ _ hcell, rfl⟩ ?_
  refine wpAny_loadName_local rfl rfl hns rfl ?_
  refine ks_wpAny_isType_cls hC0 rfl ⟨rfl, ?_⟩
  refine ks_wpAny_call_super hC0 rfl hx0 rfl (fun c e => nomatch e) (looks_mroIn X0 T.ownC) (fun h1 e1 k1 => ?_)
  have X1 : K.In h1 := X0.keeps k1
  have I : InstAt h1 x (HandSPX.excO C t0) C none := ⟨k1 _ _ hx0, rfl, rfl, trivial⟩
  have hI : Looks (model prog w) h1 (isInstance (.ref x) (.type "ValueError")) true := I.type.andThen (looks_subIn X1 T.veC)
  have hm : alongIn K "__init__" (((Value.ref C :: bm).dropWhile (· != .ref C)).drop 1) = some (some (.builtin "ValueError.__init__")) := by
    have z := T.sIn
    unfold ks_superIn at z
    rw [hcl] at z
    exact z
  refine kxs_getMethod kxs_ValueError e1 (looks_opaque X1 T.opq) (l₀ := .ref C :: bm) (fun A Q E s k q => wpAny_bind ((looks_clsIn X1 hcl) A _ E s k (wpAny_pure q))) rfl X1 hm hI (ks_ne X1 I hcl) rfl ?_
  have k2 : ∀ b o, h1.get? b = some o → (h1.push (kxs_mw "ValueError.__init__" x)).get? b = some o := fun b o e => Heap.get?_push_of_some _ e
  have eu : (h1.push (kxs_mw "ValueError.__init__" x)).get? h1.objs.size = some (kxs_mw "ValueError.__init__" x) := Heap.get?_push_at rfl rfl
  refine bw_callWith1 (i := "ValueError.__init__") (x := x) (args_cons (ldS (name := "BadNumber.__init__") (v := v) ((hns.keeps k1).keeps k2) rfl (args_nil ⟨eu, ?_⟩)))
  refine call_bw (k2 _ _ (k1 _ _ hC0)) (k2 _ _ (k1 _ _ hx0)) eu (by show 1 ≤ sizeLine; decide) fun h3 t1 k3 e3 => ?_
  -- self.number = number
  have kk : ∀ b o, b ≠ x → h0.get? b = some o → h3.get? b = some o := fun b o hb e => k3 b o hb (k2 _ _ (k1 _ _ e))
  have X3 : K.In h3 := fun a o e => kk a o (fun z => by rw [z, hnx] at e; cases e) (X0 a o e)
  have hxL : hp.objs.size ≠ x := Nat.ne_of_gt (Heap.lt_size hx)
  have hn3 : h3.Ns hp.objs.size (fun y => List.lookup y [(PySem.Str.ofString "self", Value.ref x), (PySem.Str.ofString "number", v)].reverse) := by
    obtain ⟨oL, es, ep, eo, r⟩ := hns
    exact ⟨oL, es, ep, kk _ _ hxL eo, r⟩
  refine wpAt_of_wpAny (wpAny_execs_cons (plainObj_wpAny_Assign_Attribute ?_))
  refine ldS (name := "BadNumber.__init__") (v := v) hn3 rfl (ldS (name := "BadNumber.__init__") (v := .ref x) hn3 rfl ?_)
  refine set_plain X3 (ox := HandSPX.excO C t1) (od := none) ⟨e3, rfl, rfl, trivial⟩ T.sa ?_
  refine HandSPX.exc_osa X3 e3 hcl (show HandSPX.refsVE (.ref C :: bm) = true from hbm) rfl T.noN (fun h4 tk4 dx k4 dn dne hx4 hn4 => ?_)
  show wpAny _ _ (execs _ _) _ _ _
  have sz : hp.objs.size ≤ h3.objs.size := by
    have z1 : hp.objs.size < h3.objs.size := hn3.lt
    exact Nat.le_of_lt z1
  exact wpAny_execs_nil (hq h4 tk4 dx ⟨fun b o hb e => k4 b o hb (kk b o hb (k0' b o e)), ⟨t1, hx4⟩, Nat.le_trans sz dn, dne, hn4⟩)
/-- a made BadNumber -/
structure NumMade (h h' : Heap) (e C d : Addr) (v : Value) : Prop where
  keep : ∀ b o, h.get? b = some o → h'.get? b = some o
  new : h.objs.size ≤ e
  obj : ∃ oe vs, h'.get? e = some oe ∧ oe.cls = .ref C ∧ oe.dict = some d ∧ oe.data = .fields vs ∧ vs[1]? = some .none
  dbig : h.objs.size ≤ d
  dne : d ≠ e
  ns : h'.Ns1 d (fun y => if y = "number" then some v else none)
theorem num_made (T : NumTxt prog K mg C fI) {v : Value} (X : K.In s.heap) (G : s.heap.Ns mainGlobals mg) (Bn : ∃ mb, s.heap.Ns builtinsNs mb ∧ mb "super" = some (.type "super")) (hlim : s.heap.NoLimit) (hroom : A.depth + 1 < recursionLimit)
    (hq : ∀ h' tk e d, NumMade s.heap h' e C d v → R (.ok (.ret (.ref e))) { s with heap := h', toks := tk }) :
    codeAny (model prog w) A (.call (.ref C) ⟨[v], []⟩) R s := by
  obtain ⟨nm, q, N, bs, bm, sn, sub, ab, col, dd, k0, k1, k2, k3, k5, hC, hbm⟩ := T.cls
  obtain ⟨mb, hB, hmb⟩ := Bn
  obtain ⟨hp, g, dr, tk, os⟩ := s
  have k : ∀ b o, hp.get? b = some o → ((hp.push (kdv_tup [v])).push (HandSPX.excO C hp.objs.size)).get? b = some o := fun b o e => Heap.get?_push_of_some _ (Heap.get?_push_of_some _ e)
  have hget : ((hp.push (kdv_tup [v])).push (HandSPX.excO C hp.objs.size)).get? (hp.objs.size + 1) = some (HandSPX.excO C hp.objs.size) := by heap_get
  have hnx : K.lookup (hp.objs.size + 1) = none := by
    cases e : K.lookup (hp.objs.size + 1) with
    | none => rfl
    | some o =>
      have z : hp.get? (hp.objs.size + 1) = some o := X _ _ e
      exact absurd (Nat.lt_of_succ_lt (Heap.lt_size z)) (Nat.lt_irrefl _)
  refine HandSPX.call_own F.excBase_ValueError (fun X => HandSPX.refsVE_contains X bm hbm) (X _ _ hC) (looks_findIn X T.iC) (fun self => bind_fn X self T.tC) (by show 1 ≤ sizeLine; decide) ?_
  refine num_init (s := ⟨(hp.push (kdv_tup [v])).push (HandSPX.excO C hp.objs.size), g, dr, tk, os⟩) T (X.keeps k) (G.keeps k) ⟨mb, hB.keeps k, hmb⟩ (hlim.keeps k) hget hnx ?_ fun h' tk' dx ⟨k', hx, dn, dne, hns⟩ => ?_
  · show A.depth + 1 < recursionLimit
    exact hroom
  · have old : ∀ b o, hp.get? b = some o → h'.get? b = some o := fun b o e => k' b o (Nat.ne_of_lt (Nat.lt_succ_of_lt (Heap.lt_size e))) (k b o e)
    have z : hp.objs.size + 1 + 1 ≤ dx := by
      first
        | (simpa only [Heap.size_push] using dn)
        | exact dn
        | (have q := dn; rw [Heap.size_push, Heap.size_push] at q; exact q)
    obtain ⟨t1, hx⟩ := hx
    exact ⟨rfl, hq h' tk' (hp.objs.size + 1) dx ⟨old, Nat.le_succ _, ⟨_, _, hx, rfl, rfl, rfl, rfl⟩, Nat.le_trans (Nat.le_trans (Nat.le_succ _) (Nat.le_succ _)) z, dne, hns⟩⟩
end
theorem relO_num {v : V} {v' : Value} (r : RelV v v') (f : Str) : RelO (List.lookup f [(("number" : Str), v)]) (if f = "number" then some v' else none) := by
  by_cases hw : f = "number"
  · subst hw
    rw [if_pos rfl]
    have q : List.lookup ("number" : Str) [(("number" : Str), v)] = some v := by simp [List.lookup]
    rw [q]
    exact r
  · rw [if_neg hw]
    have qw : (f == ("number" : Str)) = false := by simpa using hw
    have q2 : List.lookup f [(("number" : Str), v)] = none := by simp [List.lookup, qw]
    rw [q2]
    trivial
section
variable {X : Cx} {C fI : Addr}
/-- BadNumber(e) -/
def tMkNum (C : Addr) (ta : TA) : L2.St → Hp → XK → Prop := fun σ H Q => ta σ H fun vs H1 => ∃ v, vs = [v] ∧ ∀ d, H1 d = none → Q (.ref C) (some d) (upd H1 d (.xd [(("number" : Str), v)]))
theorem pmk_num {a : Expr} {ta : TA} {p pos : Pos} {k : Nat} (T : NumTxt X.prog X.K X.mg C fI) (hr : Room k X.A) (ha : PA X [a] ta) (hg : Gl X "BadNumber" := by rfl)
    (he : starEach (a :: []) X.env = (false, eval a X.env) :: starEach [] X.env := by rfl) (hpl : (backTo pos (starEach [] X.env)).any (·.1) = false := by rfl) :
    PMk X (.Call (.Name "BadNumber" p) [a] [] pos) (tMkNum C ta) := by
  intro pins s σ H Q I h
  refine wpAny_Call_Name_kw (ld_glob I hg T.gC ?_)
  refine PySem.W.callWith_K (h₀ := X.base) I.ok.mod.kin T.kC (thn (ha.run pos pins s σ H _ I h) fun us s1 hh => ?_) he hpl
  obtain ⟨vs, H1, I1, r1, v, ev, q1⟩ := hh
  subst ev
  refine ⟨I1.kIn, ?_⟩
  cases r1 with
  | cons rv rn =>
    rename_i v' us'
    cases rn
    show wpAny _ _ (call (.ref C) [v']) _ _ _
    have hlim := I1.nolimit
    have hG := I1.mod.glob.keeps I1.bk
    have hBn : ∃ mb, s1.heap.Ns builtinsNs mb ∧ mb "super" = some (.type "super") := by
      obtain ⟨mb, b1, b2⟩ := I1.mod.blt
      exact ⟨mb, b1.keeps I1.bk, (b2 "super" (by decide)).trans (by decide +kernel)⟩
    obtain ⟨hp, g, dr, tk, os⟩ := s1
    refine wpAny_call (num_made T I1.kIn hG hBn hlim (by have := hr.dp; omega) fun h' tk' e d M => ?_)
    show MkP X pins σ Q (.ref e) ⟨h', g, dr, tk', os⟩
    obtain ⟨oe, fv, hoe, hc, hd, hdat, h1⟩ := M.obj
    have hns := M.ns
    obtain ⟨G', g1, g2⟩ := restrict h' fun b => decide (b ≠ e)
    have gk : ∀ b, b ≠ e → G'.get? b = h'.get? b := fun b hb => g1 b (decide_eq_true hb)
    have ge : G'.get? e = none := g2 e (by simp)
    have old : ∀ b o, hp.get? b = some o → G'.get? b = some o := fun b o q => (gk b (Nat.ne_of_lt (Nat.lt_of_lt_of_le (Heap.lt_size q) M.new))).trans (M.keep b o q)
    have ob : ObjOk X.prog X.w (upd H1 d (.xd [(("number" : Str), v)])) G' d (.xd [(("number" : Str), v)]) :=
      ⟨_, hns.at (fun o q => (gk d M.dne).trans q), fun f => relO_num rv f⟩
    have J : Inv X pins σ (upd H1 d (.xd [(("number" : Str), v)])) ⟨G', g, dr, tk', os⟩ := I1.laid (t' := tk') old M.dbig ob
    refine ⟨e, oe, fv, ⟨G', g, dr, tk', os⟩, _, .ref C, some d, rfl, J, fun b o q => ?_, ge, hoe, ⟨hc, hd⟩, hdat, h1, ?_, rfl, I1.bare, raises_own T.exC T.tyC, q1 d (I1.hok.fresh M.dbig)⟩
    · by_cases hb : b = e
      · have q' : G'.get? b = some o := q
        rw [hb, ge] at q'; cases q'
      · exact (gk b hb).symm.trans q
    · rw [upd_ne (Ne.symm M.dne)]
      exact I1.hok.fresh M.new
/-- raise BadNumber(e) -/
def tRaiseNum (C : Addr) (W : WX) (ta : TA) : TS := fun _ σ H => tMkNum C ta σ H fun cls d H' => W cls d σ H'
theorem ps_raiseNum {a : Expr} {ta : TA} {W : WX} {p pos pos2 : Pos} {k : Nat} (hc : X.calm = true) (T : NumTxt X.prog X.K X.mg C fI) (hr : Room k X.A) (tk : Takes X W) (ha : PA X [a] ta) (hg : Gl X "BadNumber" := by rfl)
    (he : starEach (a :: []) X.env = (false, eval a X.env) :: starEach [] X.env := by rfl) (hpl : (backTo pos (starEach [] X.env)).any (·.1) = false := by rfl) :
    PS X (.Raise (some (.Call (.Name "BadNumber" p) [a] [] pos)) none pos2) (tRaiseNum C W ta) := ps_raise hc tk (pmk_num T hr ha hg he hpl)
end
/-! ### check_limit -/
section
variable {P : Program} {w : World} {K : PySem.W.Frag} {mg : Str → Option Value} {base : Heap} {C fI : Addr}
/-- check_limit(v): nothing; or an error of the class at C whose own dict d (new) holds v -/
def spLimit (C : Addr) : Sp := fun vs H Q E => ∃ v : V, vs = [v] ∧ Sc v ∧ (btw v 1 20000 = true → Q .non H) ∧ (btw v 1 20000 = false → ∀ d : Addr, H d = none → E (.ref C) (some d) (upd H d (.xd [(("number" : Str), v)])))
theorem scLimit : FnScope ["limit"] ["limit"] (defScope sLimit) := ⟨rfl, rfl, rfl, by decide +kernel, rfl, by decide +kernel, by decide +kernel⟩
theorem ok_limit {f : Addr} {fd : FuncData} (F : Fun K "check_limit" "check_limit" sLimit f fd) (T : NumTxt P K mg C fI) (N : Cst mg) (CB : Cl P w K mg base CX0 2 "is_between" ["value", "least", "most"] spBetween) : FnOk P w K mg base (L2.CX P w) 3 f fd ["limit"] (spLimit C) := by
  refine F.okX scLimit (fun vs H Q E h => ?_) (fun cdv A outer s H vs Q E hr h => ?_)
  · obtain ⟨v, rfl, _⟩ := h
    rfl
  · obtain ⟨v, rfl, hv, k1, k2⟩ := h
    refine ⟨_, pss_one (ps_if (pt_not (pt_val (pe_cl0 CB hr (pa_cons (pv 0) (pa_cons pe_int (pa_cons (pe_num N.limit) pa_nil)))))) (pss_one (ps_raiseNum (W := fun cls d _ H => E cls d H) rfl T hr (takes_of rfl rfl rfl rfl) (pa_cons (pv 0) pa_nil))) pss_nil), ?_⟩
    refine ⟨_, rfl, v, 1, 20000, rfl, hv, _, rfl, ?_⟩
    cases e : btw v 1 20000 with
    | true => exact iteF (k1 e)
    | false => exact iteT ⟨_, rfl, v, rfl, fun d hd => k2 e d hd⟩
end
end GP
/-! Good periods: good_list, good_periods, fewest_signs. -/
namespace GP
open PySem PySem.Spec PyProof.Rows L2
theorem rgV_ps : rgV 1 (200 + 1) = ps.map V.int := by
  unfold rgV ps
  rw [List.map_map]
  rfl
theorem btw_lim {lim : Int} (h1 : 1 ≤ lim) (h2 : lim ≤ 20000) : btw (.int lim) 1 20000 = true := btw_true h1 h2
section
variable {P : Program} {w : World} {K : PySem.W.Frag} {mg : Str → Option Value} {base : Heap} {C CL fI : Addr}
/-- what a function of a lull and a limit does with a limit that is none -/
def Odd (C : Addr) (v : V) (H : Hp) (E : XK) : Prop := btw v 1 20000 = false → ∀ (d : Addr) (H' : Hp), Same H H' → H' d = some (.xd [(("number" : Str), v)]) → E (.ref C) (some d) H'
/-! ### good_list -/
def spGoodL (C CL : Addr) : Sp := fun vs H Q E => ∃ (l : Addr) (v : V) (D T L Z : Int), vs = [.ref l, v] ∧ LullAt CL H l D T L Z ∧ LOk D T L Z ∧ Sc v ∧
  (∀ lim, v = .int lim → 1 ≤ lim → lim ≤ 20000 → ∀ (r : Addr) (H' : Hp), H r = none → Same H H' → H' r = some (.lst ((good (gap D T L Z) lim).map V.int)) → Q (.ref r) H') ∧ Odd C v H E
abbrev nGoodL : List Str := ["lull", "limit", "periods", "period"]
theorem scGoodL : FnScope nGoodL ["lull", "limit"] (defScope sGoodL) := ⟨rfl, rfl, rfl, by decide +kernel, rfl, by decide +kernel, by decide +kernel⟩
theorem btw_int {v : V} (h : btw v 1 20000 = true) : ∃ lim, v = .int lim ∧ 1 ≤ lim ∧ lim ≤ 20000 := by
  cases v with
  | int i =>
    unfold btw at h
    have h' : (decide (1 ≤ i) && decide (i ≤ 20000)) = true := h
    rw [Bool.and_eq_true, decide_eq_true_eq, decide_eq_true_eq] at h'
    exact ⟨i, rfl, h'.1, h'.2⟩
  | non => exact Bool.noConfusion h
  | bl x => exact Bool.noConfusion h
  | str x => exact Bool.noConfusion h
  | byt b => exact Bool.noConfusion h
  | flt b => exact Bool.noConfusion h
  | ref a => exact Bool.noConfusion h
  | ty n => exact Bool.noConfusion h
theorem ok_goodl {f : Addr} {fd : FuncData} (F : Fun K "good_list" "good_list" sGoodL f fd) (B : Blt mg) (N : Cst mg) (CM : Cl P w K mg base (L2.CX P w) 3 "check_limit" ["limit"] (spLimit C)) (CG : Cl P w K mg base CX0 5 "quiet_gap" ["lull", "signs"] (spGap CL))
    (CS : Cl P w K mg base CX0 3 "period_signs" ["lull", "period"] (spSigns CL)) : FnOk P w K mg base (L2.CX P w) 6 f fd ["lull", "limit"] (spGoodL C CL) := by
  refine F.okX scGoodL (fun vs H Q E h => ?_) (fun cdv A outer s H vs Q E hr h => ?_)
  · obtain ⟨l, v, D, T, L, Z, rfl, _⟩ := h
    rfl
  · obtain ⟨l, v, D, T, L, Z, rfl, hL, ok, hv, k1, k2⟩ := h
    refine ⟨_, pss_cons (ps_expr (pe_cl CM hr (passes_call (W := fun cls d _ H => E cls d H) (takes_of rfl rfl rfl rfl) (fun _ _ _ _ h => h)) (pa_cons (pv 1) pa_nil)))
      (pss_cons (ps_set (i := 2) scGoodL.nd rfl (.inl rfl) (pe_listRg rfl (by rfl) B.list (prg_2 (by rfl) B.range pe_int (pe_op op_add (pe_num N.period) pe_int))))
      (pss_one (ps_ret (pe_lc (own := [("period", 3)]) (g := gName 3) rfl scGoodL.nd (pi_list (pv 2)) (blkOk_by (N := nGoodL) (sc := defScope sGoodL) (by decide +kernel))
        (fun _ _ _ _ _ => pg_name (i := 3) scGoodL.nd rfl (.inl rfl)) (fun _ _ _ _ _ => pts_one (pt_cmpR op_le (pe_cl0 CG hr (pa_cons (pv 0) (pa_cons (pe_cl0 CS hr (pa_cons (pv 0) (pa_cons (pv 3) pa_nil))) pa_nil))) (pv 1) (nomark _))) (fun _ _ _ _ _ => pv 3))))), ?_⟩
    refine ⟨_, rfl, v, rfl, hv, fun hb => ?_, fun hb d hd => k2 hb d _ (same_upd hd) upd_same⟩
    obtain ⟨lim, rfl, b1, b2⟩ := btw_int hb
    refine ⟨200, 1, rfl, rfl, 1, 200 + 1, rfl, rfl, ⟨by decide, by decide, by decide, by decide, by decide⟩, fun o no => ?_⟩
    rw [rgV_ps]
    have s1 := same_upd (o := .lst (ps.map V.int)) no
    refine ⟨_, rfl, o, rfl, ⟨_, seq_of upd_same⟩, fun D0 hD0 => ?_⟩
    refine lc_list (K := K) (a := o) (xs := ps.map V.int) (fun i H' => Same (upd H o (.lst (ps.map V.int))) H' ∧ H' D0 = some (.lst (((ps.take i).filter fun p => decide (gap D T L Z p ≤ lim)).map V.int))) ⟨same_upd hD0, by rw [upd_same]; rfl⟩ (fun i H' _ ⟨s, _⟩ => s.seq (seq_of upd_same)) ?_ ?_
    · rintro i x H2 hi ⟨s2, e2⟩
      obtain ⟨p, hp, rfl⟩ := ints_at hi
      obtain ⟨p1, p2⟩ := ps_mem (List.mem_of_getElem? hp)
      have sH := s1.trans s2
      refine ⟨rfl, _, rfl, _, rfl, _, rfl, l, D, T, L, Z, p, rfl, hL.same sH, ok, p1, p2, fun t H3 s3 e3 => ?_⟩
      refine ⟨l, t, D, T, L, Z, p, rfl, hL.same (sH.trans s3), ok, p1, e3, fun H4 s4 => ?_⟩
      have s34 := s3.trans s4
      rw [good_take (gap D T L Z) lim hp]
      refine ⟨_, rfl, _, lim, rfl, rfl, _, rfl, ite2 (fun c => ?_) (fun c => ?_)⟩
      · have c' : gap D T L Z p ≤ lim := of_decide_eq_true c
        rw [if_pos c']
        refine ⟨_, rfl, _, s34 _ _ e2, ltLine (by rw [List.length_map]; exact Nat.le_trans (filt_len _ _) (by decide)), ?_, ?_⟩
        · intro b u hb
          rw [upd_ne (ne_of_none hb hD0)]
          exact s34 _ _ (s2 b u hb)
        · rw [upd_same, snoc_map]
      · have c' : ¬ gap D T L Z p ≤ lim := fun z => c (decide_eq_true z)
        rw [if_neg c', List.append_nil]
        exact ⟨s2.trans s34, s34 _ _ e2⟩
    · rintro H2 ⟨s2, e2⟩
      rw [List.length_map, ps_len, good_all] at e2
      exact k1 lim rfl b1 b2 D0 H2 (s1.free hD0) (s1.trans s2) e2
/-! ### good_periods -/
def spGoodP (C CL : Addr) : Sp := fun vs H Q E => ∃ (l : Addr) (v : V) (D T L Z : Int), vs = [.ref l, v] ∧ LullAt CL H l D T L Z ∧ LOk D T L Z ∧ Sc v ∧
  (∀ lim, v = .int lim → 1 ≤ lim → lim ≤ 20000 → ∀ (r : Addr) (H' : Hp), Same H H' → SpansAt H' r (spans (good (gap D T L Z) lim)) → Q (.ref r) H') ∧ Odd C v H E
abbrev nGoodP : List Str := ["lull", "limit", "spans", "period"]
theorem scGoodP : FnScope nGoodP ["lull", "limit"] (defScope sGoodP) := ⟨rfl, rfl, rfl, by decide +kernel, rfl, by decide +kernel, by decide +kernel⟩
theorem ok_goodp {f : Addr} {fd : FuncData} (F : Fun K "good_periods" "good_periods" sGoodP f fd) (B : Blt mg) (CGL : Cl P w K mg base (L2.CX P w) 6 "good_list" ["lull", "limit"] (spGoodL C CL)) : FnOk P w K mg base (L2.CX P w) 7 f fd ["lull", "limit"] (spGoodP C CL) := by
  refine F.okX scGoodP (fun vs H Q E h => ?_) (fun cdv A outer s H vs Q E hr h => ?_)
  · obtain ⟨l, v, D, T, L, Z, rfl, _⟩ := h
    rfl
  · obtain ⟨l, v, D, T, L, Z, rfl, hL, ok, hv, k1, k2⟩ := h
    refine ⟨_, pss_cons (ps_set (i := 2) scGoodP.nd rfl (.inl rfl) (pe_lst pa_nil))
      (pss_cons (ps_for (passes_of rfl) rfl (pi_list (pe_cl CGL hr (passes_call (W := fun cls d _ H => E cls d H) (takes_of rfl rfl rfl rfl) (fun _ _ _ _ h => h)) (pa_cons (pv 0) (pa_cons (pv 1) pa_nil)))) (pg_name (i := 3) scGoodP.nd rfl (.inl rfl))
        (pss_one (ps_if (PW.pt (pw_and (pt_cmpR op_gt (pe_len B (pv 2)) pe_int (nomark _)) (pw_and1 (pt_cmpR op_eq (pe_ixT (pe_ixL (pv 2) (pe_un un_neg pe_int)) pe_int) (pe_op op_sub (pv 3) pe_int) (nomark _)))))
          (pss_one (ps_asg (pe_tup (pa_cons (pe_ixT (pe_ixL (pv 2) (pe_un un_neg pe_int)) pe_int) (pa_cons (pv 3) pa_nil))) (pg_sub (pv 2) (pe_un un_neg pe_int) set_list)))
          (pss_one (ps_expr (pe_bm PySem.F.plainAttrs_list PySem.F.slot_list_append PySem.F.type_list_append mt_append (pv 2) (pa_cons (pe_tup (pa_cons (pv 3) (pa_cons (pv 3) pa_nil))) pa_nil)))))))
      (pss_one (ps_ret (pv 2)))), ?_⟩
    refine ⟨Nat.zero_le _, fun p hp => ?_⟩
    have s0 := same_upd (o := .lst []) hp
    refine ⟨_, rfl, _, rfl, l, v, D, T, L, Z, rfl, hL.same s0, ok, hv, fun lim ev b1 b2 a H0 na sa ea => ?_, fun hb d H' sd ed => k2 hb d H' (s0.trans sd) ed⟩
    subst ev
    obtain ⟨gl, hgl⟩ : ∃ gl, good (gap D T L Z) lim = gl := ⟨_, rfl⟩
    have hl : gl.length ≤ 200 := by rw [← hgl]; exact good_len _ _
    rw [hgl] at ea
    have s0a := s0.trans sa
    have nap : a ≠ p := fun z => by
      rw [z, upd_same] at na
      cases na
    refine ⟨a, rfl, ⟨_, seq_of ea⟩, for_list (K := K) (a := a) (xs := gl.map V.int) (fun i σ H' => ∃ x : Option V, σ = [some (.ref l), some (.int lim), some (.ref p), x] ∧ H' a = some (.lst (gl.map V.int)) ∧ Same H H' ∧ SpansAt H' p (spans (gl.take i)))
      ⟨none, rfl, ea, s0a, [], sa _ _ upd_same, PairsAt.nil _⟩ (fun i σ H' _ ⟨_, _, e, _⟩ => seq_of e) ?_ ?_⟩
    · rintro i y σ H1 hi ⟨v4, rfl, ea1, s1, hS⟩
      obtain ⟨x, hx, rfl⟩ := ints_at hi
      have hsl := spans_len gl i
      have hil : i < gl.length := (List.getElem?_eq_some_iff.mp hx).1
      have keepA : ∀ {T : Addr} {o u : HO}, H1 T = none → (upd (upd H1 T o) p u) a = some (.lst (gl.map V.int)) := fun {T o u} hT => by
        rw [upd_ne nap, upd_ne (ne_of_none ea1 hT)]
        exact ea1
      rw [show spans (gl.take (i + 1)) = spS (spans (gl.take i)) x from spans_take hx]
      obtain ⟨rs, hp1, hr1⟩ := hS
      have hlen := len_refs hr1
      -- len(spans) > 0
      refine ⟨.ref p, rfl, p, _, rfl, .inl (seq_of hp1), _, 0, rfl, rfl, _, rfl, ?_⟩
      rcases last_split (spans (gl.take i)) with e | ⟨s0', c, d, e⟩
      · rw [e] at hr1 hsl hlen ⊢
        have h0 : ((rs.map V.ref).length : Int) = 0 := by rw [hlen]; rfl
        rw [h0]
        refine iteF ?_
        refine iteF ?_
        refine ⟨.ref p, rfl, .inl ⟨rfl, _, seq_of hp1⟩, _, rfl, _, rfl, (by show 2 ≤ sizeLine; decide), fun T hT => ?_⟩
        have hp2 := same_upd (o := .tup [V.int x, V.int x]) hT _ _ hp1
        refine ⟨p, _, _, rfl, rfl, hp2, ltLine (by rw [len_refs hr1]; simp), ?_⟩
        exact ⟨_, rfl, keepA hT, same_two s1 hp hT, spans_app hp1 hr1 hT⟩
      · rw [e] at hr1 hsl hlen ⊢
        have h0 : decide ((0 : Int) < ((rs.map V.ref).length : Int)) = true := decide_eq_true (by rw [hlen, List.length_append]; show (0 : Int) < ((s0'.length + 1 : Nat) : Int); omega)
        rw [h0]
        refine iteT ?_
        obtain ⟨rs0, r, rfl, hr0, er⟩ := hr1.split
        have hat : atI ((rs0 ++ [r]).map V.ref) (-1) = some (.ref r) := by
          rw [refs_snoc]
          exact atI_last _ _
        refine ⟨.ref p, rfl, 1, rfl, p, _, -1, .ref r, rfl, rfl, seq_of hp1, hat, r, _, 1, .int d, rfl, rfl, tup_of er, at_of (j := 1) rfl rfl, _, rfl, x, 1, rfl, rfl, rfl, _, rfl, ite2 (fun c' => ?_) (fun c' => ?_)⟩
        · have ed : d = x - 1 := V.int.inj (of_decide_eq_true c')
          refine ⟨.ref p, rfl, 1, rfl, p, _, -1, .ref r, rfl, rfl, seq_of hp1, hat, r, _, 0, .int c, rfl, rfl, tup_of er, at_of (j := 0) rfl rfl, _, rfl, (by show 2 ≤ sizeLine; decide), fun T hT => ?_⟩
          have hp2 := same_upd (o := .tup [V.int c, V.int x]) hT _ _ hp1
          refine ⟨.ref p, rfl, 1, rfl, p, _, -1, rs0.length, rfl, rfl, hp2, ?_, ?_⟩
          · rw [List.length_map, List.length_append]
            exact ixN_last _
          · refine ⟨_, rfl, keepA hT, same_two s1 hp hT, ?_⟩
            rw [spS_join ed]
            exact spans_set hp1 hr0 hT
        · have ed : ¬ d = x - 1 := fun z => c' (decide_eq_true (by rw [z]))
          refine ⟨.ref p, rfl, .inl ⟨rfl, _, seq_of hp1⟩, _, rfl, _, rfl, (by show 2 ≤ sizeLine; decide), fun T hT => ?_⟩
          have hp2 := same_upd (o := .tup [V.int x, V.int x]) hT _ _ hp1
          refine ⟨p, _, _, rfl, rfl, hp2, ltLine (by rw [len_refs hr1]; omega), ?_⟩
          refine ⟨_, rfl, keepA hT, same_two s1 hp hT, ?_⟩
          rw [spS_new ed]
          exact spans_app hp1 hr1 hT
    · rintro σ H1 ⟨v4, rfl, ea1, s1, hS⟩
      rw [List.length_map, List.take_length] at hS
      refine ⟨_, rfl, k1 lim rfl b1 b2 p H1 s1 ?_⟩
      rw [hgl]
      exact hS
/-! ### fewest_signs -/
def spFew (C CL : Addr) : Sp := fun vs H Q E => ∃ (l : Addr) (v : V) (D T L Z : Int), vs = [.ref l, v] ∧ LullAt CL H l D T L Z ∧ LOk D T L Z ∧ Sc v ∧
  (∀ lim, v = .int lim → 1 ≤ lim → lim ≤ 20000 → (good (gap D T L Z) lim = [] → ∀ H', Same H H' → Q .non H') ∧
    ∀ q, (good (gap D T L Z) lim)[(good (gap D T L Z) lim).length - 1]? = some q → ∀ (r : Addr) (H' : Hp), Same H H' → H' r = some (.tup [.int ((Z - 1) / q), .int q]) → Q (.ref r) H') ∧ Odd C v H E
abbrev nFew : List Str := ["lull", "limit", "best", "period", "count"]
theorem scFew : FnScope nFew ["lull", "limit"] (defScope sFewest) := ⟨rfl, rfl, rfl, by decide +kernel, rfl, by decide +kernel, by decide +kernel⟩
theorem ok_few {f : Addr} {fd : FuncData} (F : Fun K "fewest_signs" "fewest_signs" sFewest f fd) (T0 : LT K CL) (CGL : Cl P w K mg base (L2.CX P w) 6 "good_list" ["lull", "limit"] (spGoodL C CL)) : FnOk P w K mg base (L2.CX P w) 7 f fd ["lull", "limit"] (spFew C CL) := by
  refine F.okX scFew (fun vs H Q E h => ?_) (fun cdv A outer s H vs Q E hr h => ?_)
  · obtain ⟨l, v, D, T, L, Z, rfl, _⟩ := h
    rfl
  · obtain ⟨l, v, D, T, L, Z, rfl, hL, ok, hv, k1, k2⟩ := h
    obtain ⟨o1, o2, o3, o4, o5, o6, o7, o8⟩ := id ok
    refine ⟨_, pss_cons (ps_set (i := 2) scFew.nd rfl (.inl rfl) pe_non)
      (pss_cons (ps_for (passes_of rfl) rfl (pi_list (pe_cl CGL hr (passes_call (W := fun cls d _ H => E cls d H) (takes_of rfl rfl rfl rfl) (fun _ _ _ _ h => h)) (pa_cons (pv 0) (pa_cons (pv 1) pa_nil)))) (pg_name (i := 3) scFew.nd rfl (.inl rfl))
        (pss_cons (ps_set (i := 4) scFew.nd rfl (.inl rfl) (pe_op op_fdiv (pe_op op_sub (pe_fld (pv 0) rfl) pe_int) (pv 3)))
        (pss_one (ps_if (PW.pt (pw_or (pt_cmpR op_isN (pv 2) pe_non (nomark _)) (pw_or1 (pt_cmpR op_le (pv 4) (pe_ixT (pv 2) pe_int) (nomark _)))))
          (pss_one (ps_set (i := 2) scFew.nd rfl (.inl rfl) (pe_tup (pa_cons (pv 4) (pa_cons (pv 3) pa_nil))))) pss_nil))))
      (pss_one (ps_ret (pv 2)))), ?_⟩
    refine ⟨_, rfl, _, rfl, l, v, D, T, L, Z, rfl, hL, ok, hv, fun lim ev b1 b2 a H0 na sa ea => ?_, k2⟩
    subst ev
    obtain ⟨g1, g2⟩ := k1 lim rfl b1 b2
    have gup := good_up (gap D T L Z) lim
    have gmem : ∀ x ∈ good (gap D T L Z) lim, 1 ≤ x ∧ x ≤ 200 := fun x hx => good_mem hx
    obtain ⟨gl, hgl⟩ : ∃ gl, good (gap D T L Z) lim = gl := ⟨_, rfl⟩
    rw [hgl] at ea g1 g2 gup gmem
    refine ⟨a, rfl, ⟨_, seq_of ea⟩, for_list (K := K) (a := a) (xs := gl.map V.int) (fun i σ H' => ∃ (b : V) (v3 v4 : Option V), σ = [some (.ref l), some (.int lim), some b, v3, v4] ∧ H' a = some (.lst (gl.map V.int)) ∧ Same H H' ∧
        ((i = 0 ∧ b = .non) ∨ ∃ (q : Int) (r : Addr), 0 < i ∧ gl[i - 1]? = some q ∧ b = .ref r ∧ H' r = some (.tup [.int ((Z - 1) / q), .int q])))
      ⟨.non, none, none, rfl, ea, sa, .inl ⟨rfl, rfl⟩⟩ (fun i σ H' _ ⟨_, _, _, _, e, _⟩ => seq_of e) ?_ ?_⟩
    · rintro i y σ H1 hi ⟨b, v3, v4, rfl, ea1, s1, hb⟩
      obtain ⟨x, hx, rfl⟩ := ints_at hi
      obtain ⟨x1, x2⟩ := gmem x (List.mem_of_getElem? hx)
      obtain ⟨dx, hl⟩ := hL.same s1
      refine ⟨.ref l, rfl, l, CL, dx, _, _, rfl, hl, T0.cl, T0.nZ, lf_quiet D T L Z, Z, 1, rfl, rfl, _, rfl, Z - 1, x, rfl, rfl, ⟨by omega, by omega⟩, ?_⟩
      have fin : ∀ (T1 : Addr), H1 T1 = none → ∃ (b : V) (v3 v4 : Option V), ((([some (V.ref l), some (V.int lim), some (V.ref T1), some (V.int x), some (V.int ((Z - 1) / x))]) : L2.St)) = [some (.ref l), some (.int lim), some b, v3, v4] ∧ (upd H1 T1 (.tup [.int ((Z - 1) / x), .int x])) a = some (.lst (gl.map V.int)) ∧ Same H (upd H1 T1 (.tup [.int ((Z - 1) / x), .int x])) ∧
          ((i + 1 = 0 ∧ b = .non) ∨ ∃ (q : Int) (r : Addr), 0 < i + 1 ∧ gl[i + 1 - 1]? = some q ∧ b = .ref r ∧ (upd H1 T1 (.tup [.int ((Z - 1) / x), .int x])) r = some (.tup [.int ((Z - 1) / q), .int q])) := fun T1 hT => by
        refine ⟨_, _, _, rfl, ?_, s1.trans (same_upd hT), .inr ⟨x, T1, by omega, hx, rfl, upd_same⟩⟩
        rw [upd_ne (ne_of_none ea1 hT)]
        exact ea1
      refine ⟨b, rfl, rfl, _, rfl, ?_⟩
      rcases hb with ⟨e0, rfl⟩ | ⟨q, r, i0, hq, rfl, er⟩
      · rw [decide_eq_true (rfl : V.non = V.non)]
        refine iteT ?_
        refine iteT ?_
        exact ⟨_, rfl, _, rfl, (by show 2 ≤ sizeLine; decide), fun T1 hT => fin T1 hT⟩
      · rw [decide_eq_false (show ¬ V.ref r = V.non from fun z => nomatch z)]
        refine iteF ?_
        have hqx : q ≤ x := up_le gup hq hx (by omega)
        obtain ⟨q1, _⟩ := gmem q (List.mem_of_getElem? hq)
        have hle := div_mono (a := Z - 1) (by omega) (show 0 < q by omega) hqx
        refine ⟨_, rfl, .ref r, rfl, r, _, 0, .int ((Z - 1) / q), rfl, rfl, tup_of er, at_of (j := 0) rfl rfl, (Z - 1) / x, (Z - 1) / q, rfl, rfl, _, rfl, ?_⟩
        rw [decide_eq_true hle]
        refine iteT ?_
        exact ⟨_, rfl, _, rfl, (by show 2 ≤ sizeLine; decide), fun T1 hT => fin T1 hT⟩
    · rintro σ H1 ⟨b, v3, v4, rfl, ea1, s1, hb⟩
      rw [List.length_map] at hb
      refine ⟨_, rfl, ?_⟩
      rcases hb with ⟨e0, rfl⟩ | ⟨q, r, i0, hq, rfl, er⟩
      · exact g1 (List.eq_nil_of_length_eq_zero e0) H1 s1
      · exact g2 q hq r H1 s1 er
end
end GP
/-! Good periods: what the law tells of an error. -/
namespace GP
open PySem PySem.Spec PyProof.Rows L2
/-- a function of a lull and a limit, handed a limit that is none -/
def spOdd (C CL : Addr) : Sp := fun vs H Q E => ∃ (l : Addr) (v : V) (D T L Z : Int), vs = [.ref l, v] ∧ LullAt CL H l D T L Z ∧ LOk D T L Z ∧ Sc v ∧ btw v 1 20000 = false ∧ Odd C v H E
theorem spOdd_p {C CL : Addr} {vs : List V} {H : Hp} {Q : VK} {E : XK} (h : spOdd C CL vs H Q E) : spGoodP C CL vs H Q E := by
  obtain ⟨l, v, D, T, L, Z, e, hL, ok, hv, hb, k⟩ := h
  refine ⟨l, v, D, T, L, Z, e, hL, ok, hv, fun lim ev b1 b2 => ?_, k⟩
  rw [ev, btw_lim b1 b2] at hb
  cases hb
theorem spOdd_f {C CL : Addr} {vs : List V} {H : Hp} {Q : VK} {E : XK} (h : spOdd C CL vs H Q E) : spFew C CL vs H Q E := by
  obtain ⟨l, v, D, T, L, Z, e, hL, ok, hv, hb, k⟩ := h
  refine ⟨l, v, D, T, L, Z, e, hL, ok, hv, fun lim ev b1 b2 => ?_, k⟩
  rw [ev, btw_lim b1 b2] at hb
  cases hb
/-- the def at f may be called so -/
structure CalF (P : Program) (w : World) (K : PySem.W.Frag) (mg : Str → Option Value) (base : Heap) (C CL f : Addr) : Prop where
  ex : ∃ (fd : FuncData) (ps : List Str), FnOk P w K mg base (L2.CX P w) 7 f fd ps (spOdd C CL) ∧ PySem.W.keepIn K (.ref f) = true ∧ Binds K fd ps []
def tCallLS (i : Nat) (S : Addr → Prop) (sp : Sp) (E : L2.St → XK) (t : TA) : TE := fun σ H Q => ∃ f, S f ∧ σ[i]? = some (some (.ref f)) ∧ t σ H fun vs H1 => sp vs H1 Q (E σ)
section
variable {X : Cx} {i j : Nat} {C CL : Addr} {S : Addr → Prop} {E : L2.St → XK} {x : Str} {p pos : Pos} {e : Expr} {es : List Expr} {t : TA}
theorem pe_callLS (hF : ∀ f, S f → CalF X.prog X.w X.K X.mg X.base C CL f) (hr : Room j X.A) (hk : 7 ≤ j) (hN : X.N[i]? = some x) (hv : Vis X.env.scope x) (hx : ∀ σ, PassesAt (L2.CX X.prog X.w) X σ (E σ)) (ha : PA X (e :: es) t)
    (hdb : (x == ("__debug__" : Str)) = false := by decide) (hcd : (x == ("__classdict__" : Str)) = false := by decide)
    (he : starEach (e :: es) X.env = (false, eval e X.env) :: starEach es X.env := by rfl) (hpl : (backTo pos (starEach es X.env)).any (·.1) = false := by rfl) : PE X (.Call (.Name x p) (e :: es) [] pos) (tCallLS i S (spOdd C CL) E t) := by
  refine ⟨fun pins s σ H Q I h => ?_⟩
  obtain ⟨f, hS, hs, ht⟩ := h
  obtain ⟨fd, ps, F, kp, b⟩ := (hF f hS).ex
  refine wpAny_Call_Name_kw (thn ((pe_var (pos := p) hN hv hdb hcd).run pins s σ H (fun v H1 => v = .ref f ∧ H1 = H) I ⟨.ref f, hs, rfl, rfl⟩) fun u s1 ⟨v, H1, I1, r1, q1⟩ => ?_)
  obtain ⟨rfl, rfl⟩ := q1
  cases r1
  refine PySem.W.callWith_K (h₀ := X.base) I.ok.mod.kin kp (thn (ha.run pos pins s1 σ _ _ I1 ht) fun us s2 ⟨vs, H2, I2, r, q⟩ => ⟨I2.kIn, ?_⟩) he hpl
  exact run_fnS F (hr.mono hk) b (hx σ) I2 r q
end
section
variable {P : Program} {w : World} {K : PySem.W.Frag} {mg : Str → Option Value} {base : Heap} {C CL fI : Addr}
def spTold (C CL : Addr) (S : Addr → Prop) : Sp := fun vs H Q _ => ∃ (f l : Addr) (v : V) (D T L Z : Int), vs = [.ref f, .ref l, v] ∧ S f ∧ LullAt CL H l D T L Z ∧ LOk D T L Z ∧ Sc v ∧ btw v 1 20000 = false ∧
  ∀ (r : Addr) (H' : Hp), Same H H' → H' r = some (.lst [.str "number", v]) → Q (.ref r) H'
abbrev nTold : List Str := ["_law_function", "_law_lull_here", "_law_limit", "e"]
theorem scTold : FnScope nTold ["_law_function", "_law_lull_here", "_law_limit"] (defScope sLTold) := ⟨rfl, rfl, rfl, by decide +kernel, rfl, by decide +kernel, by decide +kernel⟩
theorem xfc (T : NumTxt P K mg C fI) : XfC K C := ⟨T.ga, T.gg, T.exC, T.hdC⟩
theorem ok_told {f : Addr} {fd : FuncData} {S : Addr → Prop} (F : Fun K "_law_told" "_law_told" sLTold f fd) (T : NumTxt P K mg C fI) (hF : ∀ f, S f → CalF P w K mg base C CL f) : FnOk P w K mg base CX0 8 f fd ["_law_function", "_law_lull_here", "_law_limit"] (spTold C CL S) := by
  refine F.ok scTold (fun vs H Q E h => ?_) (fun cdv A outer s H vs Q E hr h => ?_)
  · obtain ⟨f, l, v, D, T, L, Z, rfl, _⟩ := h
    rfl
  · obtain ⟨f0, l, v, D, T', L, Z, rfl, hS, hL, ok, hv, hb, q⟩ := h
    refine ⟨_, pss_one (ps_try_as (i := 3) (tb := fun W => tRet (tCallLS 0 S (spOdd C CL) (WE W) (tCons (tVar 1) (tCons (tVar 2) tNil))))
        (ts := fun a cls d => tRet (tLst (tCons (tC (.str "number")) (tCons (tXf a cls d C "number" (tVar 3)) tNil)))) (Wout := fun _ _ _ _ => False) rfl rfl scTold.nd rfl rfl ⟨rfl, by decide, Or.inl T.gC⟩ takes0
      (fun W pn xe tk _ => pss_one (ps_ret (by exact (pe_callLS hF hr (by decide) rfl (.inl rfl) (fun σ => passAt tk σ) (by exact (pa_cons (pv 1) (pa_cons (pv 2) pa_nil)))))))
      (fun a oe cls d pn hz hf => pss_one (ps_ret (by exact (pe_lst (pa_cons pe_str (pa_cons (pe_xf (xfc T) T.noN hz hf (pv 3)) pa_nil))))))), ?_⟩
    refine ⟨f0, hS, rfl, _, rfl, _, rfl, l, v, D, T', L, Z, rfl, hL, ok, hv, hb, fun _ d H' s' ed => ?_⟩
    refine ⟨true, T.te, fun _ a0 na => ?_, fun z => Bool.noConfusion z⟩
    refine ⟨_, rfl, rfl, rfl, d, _, v, rfl, ed, by simp [List.lookup], leLine (by show 2 ≤ 1000000; decide), fun r hr' => ?_⟩
    exact q r _ (s'.trans (same_upd hr')) upd_same
end
end GP
/-! Good periods: the law at one limit. -/
namespace GP
open PySem PySem.Spec PyProof.Rows L2
theorem ints_dp {K : PySem.W.Frag} {H : Hp} : ∀ ns : List Int, DpAll K H (ns.map V.int) (ns.map PyData.int)
  | [] => .nil
  | n :: r => .cons (.int n) (ints_dp r)
theorem ints_lay : ∀ ns : List Int, PyData.canLayAll0 (ns.map PyData.int) = true
  | [] => rfl
  | n :: r => by simp [PyData.canLayAll0, PyData.canLay0, ints_lay r]
theorem ints_depth : ∀ ns : List Int, PyData.depthAll (ns.map PyData.int) = 0
  | [] => rfl
  | n :: r => by simp [PyData.depthAll, PyData.depth, ints_depth r]
theorem ints_shaped (ns : List Int) : SeqAt.shaped (.list (ns.map PyData.int)) = true := by
  show (PyData.canLay0 (.list (ns.map PyData.int)) && decide (PyData.depth (.list (ns.map PyData.int)) ≤ 64)) = true
  rw [Bool.and_eq_true]
  refine ⟨by simp only [PyData.canLay0]; exact ints_lay ns, decide_eq_true ?_⟩
  simp only [PyData.depth]
  rw [ints_depth]
  decide
theorem intsE_nil : PyData.eqv (.list (([] : List Int).map PyData.int)) (.list []) = true := by simp [PyData.eqv, PyData.eqvAll]
theorem intsE_cons {ns : List Int} (h : ns ≠ []) : PyData.eqv (.list (ns.map PyData.int)) (.list []) = false := by
  cases ns with
  | nil => exact absurd rfl h
  | cons x r => simp [PyData.eqv, PyData.eqvAll]
theorem prD_shaped (x : Int × Int) : SeqAt.shaped (prD x) = true := by
  have h := prD_depth x
  show ((prD x).canLay0 && decide ((prD x).depth ≤ 64)) = true
  rw [Bool.and_eq_true]
  exact ⟨prD_lay x, decide_eq_true (by omega)⟩
theorem pr_dp {K : PySem.W.Frag} {H : Hp} {r : Addr} {a b : Int} (h : H r = some (.tup [.int a, .int b])) : Dp K H (.ref r) (prD (a, b)) := .tup (tup_of h) (.cons (.int _) (.cons (.int _) .nil))
/-- the gaps of the periods from 1 to 200, nought ahead of them -/
def GapsAt (gs : List Int) (D T L Z : Int) : Prop := gs.length = 201 ∧ ∀ i : Nat, i < 200 → gs.getD (i + 1) 0 = gap D T L Z (1 + (i : Int))
theorem take_map {α β : Type} (f : α → β) {l : List α} {i : Nat} {x : α} (h : l[i]? = some x) : (l.take (i + 1)).map f = (l.take i).map f ++ [f x] := by
  rw [List.take_add_one, h, List.map_append]
  rfl
section
variable {P : Program} {w : World} {K : PySem.W.Frag} {mg : Str → Option Value} {base : Heap} {C CL fI : Addr}
def spRight (K : PySem.W.Frag) (CL : Addr) : Sp := fun vs H Q _ => ∃ (a l g : Addr) (lim D T L Z : Int) (gs : List Int), vs = [.ref a, .ref l, .ref g, .int lim] ∧ SqL K H a [.int D, .int T, .int L, .int Z] ∧ LullAt CL H l D T L Z ∧ LOk D T L Z ∧ 1 ≤ lim ∧ lim ≤ 20000 ∧
  SqL K H g (gs.map V.int) ∧ GapsAt gs D T L Z ∧ ∀ H', Same H H' → Q (.bl true) H'
abbrev nRight : List Str := ["_law_plain", "_law_lull_here", "_law_gaps", "_law_limit", "_law_good", "_law_counts", "_law_fewest", "_law_due", "_law_period", "_law_count", "_law_at"]
theorem scRight : FnScope nRight ["_law_plain", "_law_lull_here", "_law_gaps", "_law_limit"] (defScope sLRight) := ⟨rfl, rfl, rfl, by decide +kernel, rfl, by decide +kernel, by decide +kernel⟩
theorem ok_right {f : Addr} {fd : FuncData} (F : Fun K "_law_limit_right" "_law_limit_right" sLRight f fd) (B : Blt mg) (CP : Cl P w K mg base (L2.CX P w) 7 "good_periods" ["lull", "limit"] (spGoodP C CL)) (CF : Cl P w K mg base (L2.CX P w) 7 "fewest_signs" ["lull", "limit"] (spFew C CL))
    (CS : Cl P w K mg base CX0 1 "_law_spans" ["_law_good"] (spLSpans K)) : FnOk P w K mg base CX0 8 f fd ["_law_plain", "_law_lull_here", "_law_gaps", "_law_limit"] (spRight K CL) := by
  refine F.ok scRight (fun vs H Q E h => ?_) (fun cdv A outer s H vs Q E hr h => ?_)
  · obtain ⟨a, l, g, lim, D, T, L, Z, gs, rfl, _⟩ := h
    rfl
  · obtain ⟨a, l, g, lim, D, T, L, Z, gs, rfl, hA, hL, ok, b1, b2, hG, ⟨gl1, gl2⟩, q⟩ := h
    obtain ⟨o1, o2, o3, o4, o5, o6, o7, o8⟩ := id ok
    refine ⟨_, pss_cons (ps_set (i := 4) scRight.nd rfl (.inr rfl) (pe_lc (own := [("_law_period", 8)]) (g := gName 8) rfl scRight.nd (pi_range2 (by rfl) B.range (pa_cons pe_int (pa_cons pe_int pa_nil))) (blkOk_by (N := nRight) (sc := defScope sLRight) (by decide +kernel))
        (fun _ _ _ _ _ => pg_name (i := 8) scRight.nd rfl (.inl rfl)) (fun _ _ _ _ _ => pts_one (pt_cmpR op_le (pe_ixLK K rfl (pv 2) (pv 8)) (pv 3) (nomark _))) (fun _ _ _ _ _ => pv 8)))
      (pss_cons (ps_if (pt_cmpR (op_neD hr.units) (pe_cl CP hr passL (pa_cons (pv 1) (pa_cons (pv 3) pa_nil))) (pe_cl0 CS hr (pa_cons (pv 4) pa_nil)) (nomark _)) (pss_one (ps_ret pe_bl)) pss_nil)
      (pss_cons (ps_if (pt_cmpR (op_eqD hr.units) (pv 4) (pe_lst pa_nil) (nomark _)) (pss_one (ps_ret (pe_cmpR op_isN (pe_cl CF hr passL (pa_cons (pv 1) (pa_cons (pv 3) pa_nil))) pe_non (nomark _)))) pss_nil)
      (pss_cons (ps_set (i := 5) scRight.nd rfl (.inr rfl) (pe_lc (own := [("_law_period", 8)]) (g := gName 8) (tt := tYes) rfl scRight.nd (pi_list (pv 4)) (blkOk_by (N := nRight) (sc := defScope sLRight) (by decide +kernel))
        (fun _ _ _ _ _ => pg_name (i := 8) scRight.nd rfl (.inl rfl)) (fun _ _ _ _ _ => pts_nil) (fun _ _ _ _ _ => pe_op op_fdiv (pe_op op_sub (pe_ixLK K rfl (pv 0) pe_int) pe_int) (pv 8))))
      (pss_cons (ps_set (i := 6) scRight.nd rfl (.inr rfl) (pe_callB (cr_min rfl) (by rfl) B.min bt_min (pa_cons (pe_lc (own := [("_law_count", 9)]) (g := gName 9) (tt := tYes) rfl scRight.nd (pi_list (pv 5)) (blkOk_by (N := nRight) (sc := defScope sLRight) (by decide +kernel))
        (fun _ _ _ _ _ => pg_name (i := 9) scRight.nd rfl (.inl rfl)) (fun _ _ _ _ _ => pts_nil) (fun _ _ _ _ _ => pe_toInt B (pv 9))) pa_nil)))
      (pss_cons (ps_set (i := 7) scRight.nd rfl (.inl rfl) (pe_tup (pa_cons (pv 6) (pa_cons (pe_callB (cr_max rfl) (by rfl) B.max bt_max (pa_cons (pe_lc (own := [("_law_at", 10)]) (g := gName 10) rfl scRight.nd (pi_range1 (by rfl) B.range (pa_cons (pe_len B (pv 4)) pa_nil)) (blkOk_by (N := nRight) (sc := defScope sLRight) (by decide +kernel))
        (fun _ _ _ _ _ => pg_name (i := 10) scRight.nd rfl (.inl rfl)) (fun _ _ _ _ _ => pts_one (pt_cmpR op_eq (pe_ixLK K rfl (pv 5) (pv 10)) (pv 6) (nomark _))) (fun _ _ _ _ _ => pe_toInt B (pe_ixLK K rfl (pv 4) (pv 10)))) pa_nil)) pa_nil))))
      (pss_one (ps_ret (pe_cmpR (op_eqD hr.units) (pe_cl CF hr passL (pa_cons (pv 1) (pa_cons (pv 3) pa_nil))) (pv 7) (nomark _))))))))), ?_⟩
    obtain ⟨G, hGd⟩ : ∃ G, gap D T L Z = G := ⟨_, rfl⟩
    -- _law_good
    refine ⟨1, 201, rfl, ⟨by decide, by decide, by decide, by decide⟩, fun p0 h0 => ?_⟩
    refine lc_range (lo := 1) (n := ((201 : Int) - 1).toNat) (fun i H' => Same H H' ∧ H' p0 = some (.lst (((ps.take i).filter fun p => decide (G p ≤ lim)).map V.int))) ⟨same_upd h0, by rw [upd_same]; rfl⟩ ?_ ?_
    · rintro i H1 hi ⟨s1, e1⟩
      have hi' : i < 200 := hi
      have hp := ps_get hi'
      have hg : gs.getD (i + 1) 0 = G (1 + (i : Int)) := by rw [← hGd]; exact gl2 i hi'
      rw [good_take G lim hp]
      refine ⟨rfl, .ref g, rfl, _, rfl, g, _, 1 + (i : Int), _, rfl, rfl, s1.seq hG, atS (j := i + 1) (by omega) (by omega), _, rfl, _, lim, rfl, rfl, _, rfl, ?_⟩
      rw [hg]
      refine ite2 (fun c => ?_) (fun c => ?_)
      · have c' : G (1 + (i : Int)) ≤ lim := of_decide_eq_true c
        rw [if_pos c']
        refine ⟨_, rfl, _, e1, ltLine (by rw [List.length_map]; exact Nat.le_trans (filt_len _ _) (by decide)), ?_, ?_⟩
        · intro b u hb
          rw [upd_ne (ne_of_none hb h0)]
          exact s1 b u hb
        · rw [upd_same, snoc_map]
      · have c' : ¬ G (1 + (i : Int)) ≤ lim := fun z => c (decide_eq_true z)
        rw [if_neg c', List.append_nil]
        exact ⟨s1, e1⟩
    rintro H1 ⟨s1, e1⟩
    rw [show ((201 : Int) - 1).toNat = 200 from rfl, good_all] at e1
    have ghd : good (gap D T L Z) lim = good G lim := by rw [hGd]
    have glen := good_len G lim
    have gup := good_up G lim
    have gmem : ∀ x ∈ good G lim, 1 ≤ x ∧ x ≤ 200 := fun x hx => good_mem hx
    obtain ⟨gl, hgl⟩ : ∃ gl, good G lim = gl := ⟨_, rfl⟩
    rw [hgl] at e1 ghd glen gup gmem
    -- good_periods(..) != _law_spans(..)
    refine ⟨_, rfl, _, rfl, l, .int lim, D, T, L, Z, rfl, hL.same s1, ok, trivial, fun lim' ev _ _ r1 H2 s2 hS1 => ?_, fun hb => by rw [btw_lim b1 b2] at hb; cases hb⟩
    cases ev
    rw [ghd] at hS1
    refine ⟨_, rfl, p0, gl, rfl, seq_of (s2 _ _ e1), glen, fun r2 H3 s3 hS2 => ?_⟩
    refine ⟨ssD (spans gl), ssD (spans gl), (hS1.same s3).dp, hS2.dp, ssD_shaped _, ssD_shaped _, _, rfl, ?_⟩
    rw [SeqAt.eqv_refl _ (ssD_lay _)]
    refine iteF ?_
    have s13 := (s1.trans s2).trans s3
    have e3 := s3 _ _ (s2 _ _ e1)
    -- _law_good == []
    refine ⟨.ref p0, rfl, Nat.zero_le _, fun n4 h4 => ?_⟩
    have s4 := same_upd (o := .lst []) h4
    have s14 := s13.trans s4
    have e4 := s4 _ _ e3
    refine ⟨.list (gl.map PyData.int), .list [], .lst (seq_of e4) (ints_dp gl), .lst (seq_of upd_same) .nil, ints_shaped _, nil_shaped, _, rfl, ?_⟩
    by_cases hne : gl = []
    · rw [hne, intsE_nil]
      refine iteT ?_
      refine ⟨_, rfl, _, rfl, l, .int lim, D, T, L, Z, rfl, hL.same s14, ok, trivial, fun lim' ev _ _ => ?_, fun hb => by rw [btw_lim b1 b2] at hb; cases hb⟩
      cases ev
      rw [ghd]
      refine ⟨fun _ H5 s5 => ⟨rfl, q H5 (s14.trans s5)⟩, fun q' hq' => ?_⟩
      rw [hne] at hq'
      cases hq'
    rw [intsE_cons hne]
    refine iteF ?_
    obtain ⟨lst, hlst⟩ := last_some hne
    obtain ⟨H4, eH4⟩ : ∃ H4, upd H3 n4 (.lst []) = H4 := ⟨_, rfl⟩
    rw [eH4] at s14 e4
    rw [eH4]
    -- _law_counts
    refine ⟨.ref p0, rfl, p0, rfl, ⟨_, seq_of e4⟩, fun p5 h5 => ?_⟩
    refine lc_list (K := K) (a := p0) (xs := gl.map V.int) (fun i H' => Same H4 H' ∧ H' p5 = some (.lst (((gl.take i).map fun p => (Z - 1) / p).map V.int))) ⟨same_upd h5, by rw [upd_same]; rfl⟩ (fun i H' _ ⟨s, _⟩ => seq_of (s _ _ e4)) ?_ ?_
    · rintro i x H5 hi ⟨s5, e5⟩
      obtain ⟨p, hp, rfl⟩ := ints_at hi
      obtain ⟨p1, p2⟩ := gmem p (List.mem_of_getElem? hp)
      refine ⟨rfl, .ref a, rfl, a, _, 3, .int Z, rfl, rfl, (s14.trans s5).seq hA, at_of (j := 3) rfl rfl, Z, 1, rfl, rfl, _, rfl, Z - 1, p, rfl, rfl, ⟨by omega, by omega⟩, _, e5, ltLine (by rw [List.length_map, List.length_map, List.length_take]; omega), ?_, ?_⟩
      · intro b u hb
        rw [upd_ne (ne_of_none hb h5)]
        exact s5 b u hb
      · rw [upd_same, take_map _ hp, snoc_map]
    rintro H5 ⟨s5, e5⟩
    rw [List.length_map, List.take_length] at e5
    have s15 := s14.trans s5
    have e45 := s5 _ _ e4
    obtain ⟨cs, hcs⟩ : ∃ cs, (gl.map fun p => (Z - 1) / p) = cs := ⟨_, rfl⟩
    have hcl : cs.length = gl.length := by rw [← hcs, List.length_map]
    rw [hcs] at e5
    -- _law_fewest
    refine ⟨.ref p5, rfl, p5, rfl, ⟨_, seq_of e5⟩, fun p6 h6 => ?_⟩
    refine lc_list (K := K) (a := p5) (xs := cs.map V.int) (fun i H' => Same H5 H' ∧ H' p6 = some (.lst ((cs.take i).map V.int))) ⟨same_upd h6, by rw [upd_same]; rfl⟩ (fun i H' _ ⟨s, _⟩ => seq_of (s _ _ e5)) ?_ ?_
    · rintro i x H6 hi ⟨s6, e6⟩
      obtain ⟨p, hp, rfl⟩ := ints_at hi
      refine ⟨rfl, _, rfl, .inl ⟨p, rfl, _, e6, ltLine (by rw [List.length_map, List.length_take]; omega), ?_, ?_⟩⟩
      · intro b u hb
        rw [upd_ne (ne_of_none hb h6)]
        exact s6 b u hb
      · rw [upd_same, List.take_add_one, hp]
        exact congrArg (fun z => some (HO.lst z)) (snoc_map _ _).symm
    rintro H6 ⟨s6, e6⟩
    rw [List.length_map, List.take_length] at e6
    refine ⟨p6, cs, rfl, seq_of e6, by rw [hcl]; exact List.length_pos_iff.mpr hne, fun m hm hmb => ?_⟩
    have em : m = (Z - 1) / lst := least_is gup (fun x hx => (gmem x hx).1) (by omega) hlst (by rw [hcs]; exact hm) (by rw [hcs]; exact hmb)
    subst em
    have s16 := s15.trans s6
    have e46 := s6 _ _ e45
    have e56 := s6 _ _ e5
    -- _law_due
    refine ⟨_, rfl, .ref p0, rfl, p0, _, rfl, .inl (seq_of e46), _, rfl, ?_⟩
    rw [List.length_map]
    refine ⟨by omega, by omega, fun p7 h7 => ?_⟩
    rw [show ((gl.length : Int)).toNat = gl.length by omega]
    refine lc_range (lo := 0) (n := gl.length) (fun i H' => Same H6 H' ∧ H' p7 = some (.lst (((gl.take i).filter fun p => decide ((Z - 1) / p = (Z - 1) / lst)).map V.int))) ⟨same_upd h7, by rw [upd_same]; rfl⟩ ?_ ?_
    · rintro i H7 hi ⟨s7, e7⟩
      have hp : gl[i]? = some (gl.getD i 0) := getD_of hi
      have hc : cs.getD i 0 = (Z - 1) / gl.getD i 0 := by
        have z : cs[i]? = some ((Z - 1) / gl.getD i 0) := by
          rw [← hcs, List.getElem?_map, hp]
          rfl
        rw [List.getD_eq_getElem?_getD, z]
        rfl
      rw [filt_take (fun p => decide ((Z - 1) / p = (Z - 1) / lst)) hp]
      refine ⟨rfl, .ref p5, rfl, _, rfl, p5, _, 0 + (i : Int), _, rfl, rfl, seq_of (s7 _ _ e56), atS (j := i) (by omega) (by omega), _, rfl, rfl, _, rfl, ?_⟩
      rw [hc]
      refine ite2 (fun c => ?_) (fun c => ?_)
      · have c' : (Z - 1) / gl.getD i 0 = (Z - 1) / lst := V.int.inj (of_decide_eq_true c)
        rw [if_pos (decide_eq_true c')]
        refine ⟨.ref p0, rfl, _, rfl, p0, _, 0 + (i : Int), _, rfl, rfl, seq_of (s7 _ _ e46), atS (j := i) (by omega) hi, .inl ⟨_, rfl, _, e7, ?_, ?_, ?_⟩⟩
        · rw [List.length_map]
          refine ltLine (Nat.le_trans (List.length_filter_le _ _) ?_)
          rw [List.length_take]
          omega
        · intro b u hb
          rw [upd_ne (ne_of_none hb h7)]
          exact s7 b u hb
        · rw [upd_same, snoc_map]
      · have c' : ¬ (Z - 1) / gl.getD i 0 = (Z - 1) / lst := fun z => c (decide_eq_true (by rw [z]))
        rw [if_neg (by rw [decide_eq_false c']; exact Bool.false_ne_true), List.append_nil]
        exact ⟨s7, e7⟩
    rintro H7 ⟨s7, e7⟩
    rw [List.take_length] at e7
    refine ⟨p7, _, rfl, seq_of e7, most_ne hlst, fun M hM hMb => ?_⟩
    have eM : M = lst := most_is gup hlst hM hMb
    subst eM
    refine ⟨(by show 2 ≤ sizeLine; decide), fun p8 h8 => ?_⟩
    have s8 := same_upd (o := .tup [.int ((Z - 1) / M), .int M]) h8
    have s18 := (s16.trans s7).trans s8
    -- fewest_signs(..) == _law_due
    refine ⟨_, rfl, _, rfl, l, .int lim, D, T, L, Z, rfl, hL.same s18, ok, trivial, fun lim' ev _ _ => ?_, fun hb => by rw [btw_lim b1 b2] at hb; cases hb⟩
    cases ev
    rw [ghd]
    refine ⟨fun z => absurd z hne, fun q' hq' r9 H9 s9 e9 => ?_⟩
    rw [hlst] at hq'
    cases hq'
    refine ⟨_, rfl, prD ((Z - 1) / M, M), prD ((Z - 1) / M, M), pr_dp e9, pr_dp (s9 _ _ upd_same), prD_shaped _, prD_shaped _, ?_⟩
    show Q (.bl (PyData.eqv (prD ((Z - 1) / M, M)) (prD ((Z - 1) / M, M)))) H9
    rw [SeqAt.eqv_refl _ (prD_lay _)]
    exact q H9 (s18.trans s9)
end
end GP
/-! Good periods: the law. -/
namespace GP
open PySem PySem.Spec PyProof.Rows L2
/-! ### the gaps are small -/
theorem stops_mem {D T L Z p x : Int} (ok : LOk D T L Z) (hp : 1 ≤ p) (h : x ∈ stops D T L Z (sgn Z p)) : -8 ≤ x ∧ x ≤ 72 := by
  obtain ⟨o1, o2, o3, o4, o5, o6, o7, o8⟩ := ok
  rw [stops_eq] at h
  rcases List.mem_append.mp h with h | h
  · rcases List.mem_append.mp h with h | h
    · have e : x = -2 * D := by simpa using h
      omega
    · obtain ⟨i, hi⟩ := List.mem_iff_getElem?.mp h
      have hl := (List.getElem?_eq_some_iff.mp hi).1
      rw [sgn_get hl] at hi
      have e := Option.some.inj hi
      have h1 := sgn_lt (z := Z) (p := p) (by omega) hl
      have h2 : 0 ≤ (i : Int) * p := Int.mul_nonneg (by omega) (by omega)
      omega
  · unfold tailS at h
    obtain ⟨i, hi, e⟩ := List.mem_map.mp h
    have hi' := List.mem_range.mp hi
    have h1 : 0 ≤ (0 + (i : Int)) * T := Int.mul_nonneg (by omega) (by omega)
    have h2 : (0 + (i : Int)) * T ≤ 3 * T := Int.mul_le_mul_of_nonneg_right (by omega) (by omega)
    have e' : Z + (0 + (i : Int)) * T = x := e
    omega
theorem getD_mem {l : List Int} {i : Nat} {a b : Int} (h : ∀ x ∈ l, a ≤ x ∧ x ≤ b) (h0 : a ≤ 0 ∧ 0 ≤ b) : a ≤ l.getD i 0 ∧ l.getD i 0 ≤ b := by
  by_cases hi : i < l.length
  · have e := getD_of hi
    exact h _ (List.mem_of_getElem? e)
  · have e : l.getD i 0 = 0 := by
      rw [List.getD_eq_getElem?_getD, List.getElem?_eq_none (by omega)]
      rfl
    rw [e]
    exact h0
theorem mx_mem {ns : List Int} (h : ns ≠ []) : mx ns ∈ ns := by
  cases ns with
  | nil => exact absurd rfl h
  | cons x r =>
    obtain ⟨h1, _, _⟩ := mx_fold (x :: r) x
    show (x :: r).foldl mx2 x ∈ x :: r
    rcases h1 with h1 | h1
    · rw [h1]
      exact List.mem_cons_self ..
    · exact h1
theorem gap_le {D T L Z p : Int} (ok : LOk D T L Z) (hp : 1 ≤ p) : gap D T L Z p ≤ 80 := by
  unfold gap
  have h := mx_mem (ns := diffs (stops D T L Z (sgn Z p)) (L + 1).toNat ((sgn Z p).length + 1)) (by
    intro z
    have e := diffs_len (stops D T L Z (sgn Z p)) (L + 1).toNat ((sgn Z p).length + 1)
    rw [z] at e
    simp at e)
  obtain ⟨i, _, e⟩ := List.mem_map.mp (show _ ∈ (List.range _).map _ from h)
  have h1 := getD_mem (i := i + (L + 1).toNat) (fun x hx => stops_mem ok hp hx) (show (-8 : Int) ≤ 0 ∧ (0 : Int) ≤ 72 by decide)
  have h2 := getD_mem (i := i) (fun x hx => stops_mem ok hp hx) (show (-8 : Int) ≤ 0 ∧ (0 : Int) ≤ 72 by decide)
  rw [← e]
  omega
/-- nought, and the gaps of the periods from 1 to 200 -/
def gapL (D T L Z : Int) : List Int := [0] ++ ps.map (gap D T L Z)
theorem gapL_at (D T L Z : Int) : GapsAt (gapL D T L Z) D T L Z := by
  refine ⟨by unfold gapL; rw [List.length_append, List.length_map, ps_len]; rfl, fun i hi => ?_⟩
  have e : (gapL D T L Z)[i + 1]? = some (gap D T L Z (1 + (i : Int))) := by
    show (0 :: ps.map (gap D T L Z))[i + 1]? = _
    rw [List.getElem?_cons_succ, List.getElem?_map, ps_get hi]
    rfl
  rw [List.getD_eq_getElem?_getD, e]
  rfl
theorem gapL_mem {D T L Z x : Int} (ok : LOk D T L Z) (h : x ∈ gapL D T L Z) : x ≤ 80 := by
  rcases List.mem_append.mp h with h | h
  · have e : x = 0 := by simpa using h
    omega
  · obtain ⟨p, hp, e⟩ := List.mem_map.mp h
    rw [← e]
    exact gap_le ok (ps_mem hp).1
theorem gapL_map (D T L Z : Int) : (gapL D T L Z).map V.int = [V.int 0] ++ (ps.map (gap D T L Z)).map V.int := rfl
theorem cut_mem {xs : List V} {lo hi : Option Int} {v : V} (h : v ∈ cutV xs lo hi) : v ∈ xs := by
  unfold cutV at h
  exact List.mem_of_mem_drop (List.mem_of_mem_take h)
theorem cut_len {xs : List V} (h : xs.length = 201) : (cutV xs (some 1) (some 25)).length = 24 := by
  unfold cutV
  rw [h, show HT.sIx 201 0 (some 1) = min 1 201 from HT.sIx_nat 201 0 1, show HT.sIx 201 201 (some 25) = min 25 201 from HT.sIx_nat 201 201 25, List.length_take, List.length_drop, h]
  rfl
/-! ### the odd limits -/
def odds : List V := [.int 0, .int (-1), .int 20001, .bl true, .non, .str "5"]
def dat : V → PyData
  | .bl b => .bool b
  | .int i => .int i
  | .str x => .str x
  | _ => .none
theorem dat_dp {K : PySem.W.Frag} {H : Hp} {v : V} (h : Sc v) : Dp K H v (dat v) := by
  cases v with
  | non => exact .non
  | bl b => exact .bl b
  | int i => exact .int i
  | str x => exact .str x
  | byt b => exact h.elim
  | flt b => exact h.elim
  | ref a => exact h.elim
  | ty n => exact h.elim
def toldD (v : V) : PyData := .list [.str "number", dat v]
theorem odds_ok {v : V} (h : v ∈ odds) : Sc v ∧ btw v 1 20000 = false ∧ SeqAt.shaped (toldD v) = true := by
  unfold odds at h
  simp only [List.mem_cons, List.not_mem_nil, or_false] at h
  rcases h with rfl | rfl | rfl | rfl | rfl | rfl
  all_goals exact ⟨trivial, by decide, by decide +kernel⟩
theorem told_dp {K : PySem.W.Frag} {H : Hp} {r : Addr} {v : V} (h : Sc v) (e : H r = some (.lst [.str "number", v])) : Dp K H (.ref r) (toldD v) := .lst (seq_of e) (.cons (.str _) (.cons (dat_dp h) .nil))
/-! ### what stands through the law's loops -/
def Stb (CL a l g p : Addr) (D T L Z : Int) (H : Hp) : Prop := H a = some (.lst [.int D, .int T, .int L, .int Z]) ∧ LullAt CL H l D T L Z ∧ H g = some (.lst ((gapL D T L Z).map V.int)) ∧ Pool H p
theorem Stb.same {CL a l g p : Addr} {D T L Z : Int} {H H' : Hp} (h : Stb CL a l g p D T L Z H) (s : Same H H') : Stb CL a l g p D T L Z H' := ⟨s _ _ h.1, h.2.1.same s, s _ _ h.2.2.1, h.2.2.2.same s⟩
theorem Stb.but {CL a l g p : Addr} {D T L Z : Int} {H H' : Hp} (h : Stb CL a l g p D T L Z H) (na : a ≠ p) (ng : g ≠ p) (s : SameBut p H H') (hp : Pool H' p) : Stb CL a l g p D T L Z H' := by
  obtain ⟨h1, ⟨dx, h2⟩, h3, ⟨x, y, h4, _⟩⟩ := h
  exact ⟨s _ _ h1 na, ⟨dx, s _ _ h2 (ne_of h2 h4 (by intro z; cases z))⟩, s _ _ h3 ng, hp⟩
section
variable {P : Program} {w : World} {K : PySem.W.Frag} {mg : Str → Option Value} {base : Heap} {C CL fLI fP fF : Addr} {fdLI : FuncData}
def spLaw (K : PySem.W.Frag) : Sp := fun vs H Q _ => ∃ (a : Addr) (ns : List Int), vs = [.ref a] ∧ SqL K H a (ns.map V.int) ∧ ∀ H', Q (.bl true) H'
abbrev nLaw : List Str := ["_law_script", "_law_pool_here", "_law_plain", "_law_lull_here", "_law_gaps", "_law_some", "_law_limit", "_law_odd", "_law_period"]
theorem scLaw : FnScope nLaw ["_law_script"] (defScope sLaw) := ⟨rfl, rfl, rfl, by decide +kernel, rfl, by decide +kernel, by decide +kernel⟩
abbrev isPF (fP fF : Addr) : Addr → Prop := fun f => f = fP ∨ f = fF
theorem ok_law {f : Addr} {fd : FuncData} (F : Fun K "law" "law" sLaw f fd) (B : Blt mg) (M : Mk K CL fLI) (mL : mg "Lull" = some (.ref CL)) (GI : FnOk P w K mg base CX0 4 fLI fdLI ["self", "delay", "turn", "losses", "quiet"] (spLullI CL)) (bI : Binds K fdLI ["self", "delay", "turn", "losses", "quiet"] [])
    (C1 : Cl P w K mg base CX0 1 "_law_pool" ["_law_script", "_law_k"] (spPool K)) (C2 : Cl P w K mg base CX0 1 "_law_take" ["_law_pool_here", "_law_bound"] spTake) (C3 : Cl P w K mg base CX0 2 "_law_one" ["_law_pool_here", "_law_things"] (spOne K)) (C4 : Cl P w K mg base CX0 2 "_law_lull" ["_law_pool_here"] spLLull)
    (C5 : Cl P w K mg base CX0 2 "_law_gap" ["_law_plain", "_law_signs"] (spLGap K)) (C6 : Cl P w K mg base CX0 8 "_law_told" ["_law_function", "_law_lull_here", "_law_limit"] (spTold C CL (isPF fP fF))) (C7 : Cl P w K mg base CX0 8 "_law_limit_right" ["_law_plain", "_law_lull_here", "_law_gaps", "_law_limit"] (spRight K CL))
    (gP : mg "good_periods" = some (.ref fP)) (gF : mg "fewest_signs" = some (.ref fF)) : FnOk P w K mg base CX0 9 f fd ["_law_script"] (spLaw K) := by
  refine F.ok scLaw (fun vs H Q E h => ?_) (fun cdv A outer s H vs Q E hr h => ?_)
  · obtain ⟨a, ns, rfl, _⟩ := h
    rfl
  · obtain ⟨sc, ns, rfl, hS, q⟩ := h
    have hr5 : Room 5 _ := hr.mono (by decide)
    refine ⟨_, pss_cons (ps_set (i := 1) scLaw.nd rfl (.inl rfl) (pe_cl0 C1 hr (pa_cons (pv 0) (pa_cons pe_int pa_nil))))
      (pss_cons (ps_set (i := 2) scLaw.nd rfl (.inr rfl) (pe_cl0 C4 hr (pa_cons (pv 1) pa_nil)))
      (pss_cons (ps_set (i := 3) scLaw.nd rfl (.inl rfl) (pe_make M GI hr5 (by rfl) mL bI .nil pass0 (pa_cons (pe_ixL (pv 2) pe_int) (pa_cons (pe_ixL (pv 2) pe_int) (pa_cons (pe_ixL (pv 2) pe_int) (pa_cons (pe_ixL (pv 2) pe_int) pa_nil))))))
      (pss_cons (ps_set (i := 4) scLaw.nd rfl (.inl rfl) (pe_op op_cat (pe_lst (pa_cons pe_int pa_nil)) (pe_lc (own := [("_law_period", 8)]) (g := gName 8) (tt := tYes) rfl scLaw.nd (pi_range2 (by rfl) B.range (pa_cons pe_int (pa_cons pe_int pa_nil))) (blkOk_by (N := nLaw) (sc := defScope sLaw) (by decide +kernel))
        (fun _ _ _ _ _ => pg_name (i := 8) scLaw.nd rfl (.inl rfl)) (fun _ _ _ _ _ => pts_nil)
        (fun _ _ _ _ _ => pe_cl0 C5 hr (pa_cons (pv 2) (pa_cons (pe_listRgC rfl (by rfl) B.list (prg_3 (by rfl) B.range (pa_cons (pv 8) (pa_cons (pe_ixLK K rfl (pv 2) pe_int) (pa_cons (pv 8) pa_nil))))) pa_nil))))))
      (pss_cons (ps_set (i := 5) scLaw.nd rfl (.inl rfl) (pe_cl0 C3 hr (pa_cons (pv 1) (pa_cons (pe_slice sl_list (pv 4) (po_some pe_int) (po_some pe_int)) pa_nil))))
      (pss_cons (ps_for PassesOwn.never rfl (pi_list (pe_lst (pa_cons (pe_op op_sub (pv 5) (pe_cl0 C2 hr (pa_cons (pv 1) (pa_cons pe_int pa_nil)))) (pa_cons (pe_op op_add pe_int (pe_cl0 C2 hr (pa_cons (pv 1) (pa_cons pe_int pa_nil)))) pa_nil)))) (pg_name (i := 6) scLaw.nd rfl (.inl rfl))
        (pss_one (ps_if (PW.pt (pw_and (pt_cmpR op_gt (pv 6) pe_int (nomark _)) (pw_and1 (pt_not (pt_val (pe_cl0 C7 hr (pa_cons (pv 2) (pa_cons (pv 3) (pa_cons (pv 4) (pa_cons (pv 6) pa_nil)))))))))) (pss_one (ps_ret pe_bl)) pss_nil)))
      (pss_cons (ps_for PassesOwn.never rfl (pi_list (pe_lst (pa_cons pe_int (pa_cons (pe_un un_neg pe_int) (pa_cons pe_int (pa_cons pe_bl (pa_cons pe_non (pa_cons pe_str pa_nil)))))))) (pg_name (i := 7) scLaw.nd rfl (.inl rfl))
        (pss_one (ps_if (pt_cmpR (op_neD hr.units) (pe_cl0 C6 hr (pa_cons (pe_cl0 C3 hr (pa_cons (pv 1) (pa_cons (pe_lst (pa_cons (pe_glob (v := .ref fP) rfl gP rfl) (pa_cons (pe_glob (v := .ref fF) rfl gF rfl) pa_nil))) pa_nil))) (pa_cons (pv 3) (pa_cons (pv 7) pa_nil)))) (pe_lst (pa_cons pe_str (pa_cons (pv 7) pa_nil))) (nomark _)) (pss_one (ps_ret pe_bl)) pss_nil)))
      (pss_one (ps_ret pe_bl)))))))), ?_⟩
    -- the pool, the numbers
    refine ⟨_, rfl, sc, ns, rfl, hS, fun p H1 np s1 hp1 => ?_⟩
    refine ⟨_, rfl, p, rfl, hp1, fun D T L Z a H2 ok na hp2 sb2 ea => ?_⟩
    obtain ⟨o1, o2, o3, o4, o5, o6, o7, o8⟩ := id ok
    have nap : a ≠ p := fun z => by
      obtain ⟨x, y, e, _⟩ := hp1
      rw [z, e] at na
      cases na
    have hA2 : SqL K H2 a [.int D, .int T, .int L, .int Z] := seq_of ea
    -- the lull
    refine ⟨.ref a, rfl, a, _, 0, .int D, rfl, rfl, hA2, at_of (j := 0) rfl rfl, .ref a, rfl, a, _, 1, .int T, rfl, rfl, hA2, at_of (j := 1) rfl rfl, .ref a, rfl, a, _, 2, .int L, rfl, rfl, hA2, at_of (j := 2) rfl rfl, .ref a, rfl, a, _, 3, .int Z, rfl, rfl, hA2, at_of (j := 3) rfl rfl, fun l dx nl ndx ndl => ?_⟩
    refine ⟨l, dx, D, T, L, Z, rfl, upd_same, ok, fun H3 hL3 k3 => ⟨rfl, ?_⟩⟩
    have s3 : Same H2 H3 := Same.made nl ndx k3
    have ea3 := s3 _ _ ea
    have hp3 := hp2.same s3
    -- the gaps
    refine ⟨leLine (by show 1 ≤ 1000000; decide), fun q0 h0 => ?_⟩
    have s4 := same_upd (o := .lst [V.int 0]) h0
    refine ⟨1, 201, rfl, ⟨by decide, by decide, by decide, by decide⟩, fun q1 h1 => ?_⟩
    refine lc_range (lo := 1) (n := ((201 : Int) - 1).toNat) (fun i H' => Same (upd H3 q0 (.lst [V.int 0])) H' ∧ H' q1 = some (.lst (((ps.take i).map (gap D T L Z)).map V.int))) ⟨same_upd h1, by rw [upd_same]; rfl⟩ ?_ ?_
    · rintro i H5 hi ⟨s5, e5⟩
      have hi' : i < 200 := hi
      have s35 := s4.trans s5
      have hA5 : SqL K H5 a [.int D, .int T, .int L, .int Z] := seq_of (s35 _ _ ea3)
      refine ⟨rfl, .ref a, rfl, _, rfl, .ref a, rfl, a, _, 3, .int Z, rfl, rfl, hA5, at_of (j := 3) rfl rfl, _, rfl, 1 + (i : Int), Z, 1 + (i : Int), rfl, ⟨by omega, by omega⟩, _, rg_ok (by omega) (by omega) o8 o7, fun q2 h2 => ?_⟩
      have s6 := same_upd (o := .lst (rgVC (1 + (i : Int)) (1 + (i : Int)) (Builtin.Range.rangeSize (1 + (i : Int)) Z (1 + (i : Int))).toNat)) h2
      refine ⟨a, q2, D, T, L, Z, 1 + (i : Int), rfl, s6.seq hA5, seq_of (by rw [upd_same, rgVC_sgn]), ok, by omega, fun H7 s7 => ?_⟩
      have s57 := s6.trans s7
      refine ⟨_, s57 _ _ e5, ltLine (by rw [List.length_map, List.length_map, List.length_take, ps_len]; omega), ?_, ?_⟩
      · intro b u hb
        rw [upd_ne (ne_of_none hb h1)]
        exact s57 _ _ (s5 b u hb)
      · rw [upd_same, take_map _ (ps_get hi'), snoc_map]
    rintro H5 ⟨s5, e5⟩
    rw [show ((201 : Int) - 1).toNat = 200 from rfl, List.take_of_length_le (by rw [ps_len]; exact Nat.le_refl _)] at e5
    have s35 := s4.trans s5
    refine ⟨q0, q1, _, _, rfl, rfl, s5 _ _ upd_same, e5, leLine (by rw [List.length_map, List.length_map, ps_len]; show 1 + 200 ≤ 1000000; decide), fun g hg => ?_⟩
    obtain ⟨H6, eH6⟩ : ∃ H6, upd H5 g (.lst ([V.int 0] ++ (ps.map (gap D T L Z)).map V.int)) = H6 := ⟨_, rfl⟩
    have s36 : Same H3 H6 := by rw [← eH6]; exact s35.trans (same_upd hg)
    have eg : H6 g = some (.lst ((gapL D T L Z).map V.int)) := by rw [← eH6, upd_same, gapL_map]
    have ngp : g ≠ p := by
      obtain ⟨x, y, e, _⟩ := hp3
      exact (ne_of_none (s35 _ _ e) hg).symm
    have st6 : Stb CL a l g p D T L Z H6 := ⟨s36 _ _ ea3, hL3.same s36, eg, hp3.same s36⟩
    rw [eH6]
    -- one of the gaps
    refine ⟨_, rfl, .ref g, rfl, 1, rfl, 25, rfl, g, _, rfl, seq_of eg, fun q3 h3 => ?_⟩
    have s7 := same_upd (o := .lst (cutV ((gapL D T L Z).map V.int) (some 1) (some 25))) h3
    have st7 := st6.same s7
    have clen := cut_len (xs := (gapL D T L Z).map V.int) (by rw [List.length_map]; exact (gapL_at D T L Z).1)
    refine ⟨p, q3, _, rfl, st7.2.2.2, seq_of upd_same, (by obtain ⟨x, y, e, _⟩ := st6.2.2.2; exact (ne_of_none e h3).symm), by rw [clen]; decide, by rw [clen]; decide, fun v H8 hv hp8 sb8 => ?_⟩
    have st8 := st7.but nap ngp sb8 hp8
    obtain ⟨z, hz, rfl⟩ := List.mem_map.mp (cut_mem hv)
    have hz80 := gapL_mem ok hz
    -- the two limits
    refine ⟨_, rfl, _, rfl, p, 2, rfl, hp8, by decide, by decide, fun r1 H9 a9 b9 hp9 sb9 => ⟨z, r1, rfl, rfl, ?_⟩⟩
    have st9 := st8.but nap ngp sb9 hp9
    refine ⟨_, rfl, p, 90, rfl, hp9, by decide, by decide, fun r2 HA aA bA hpA sbA => ⟨1, r2, rfl, rfl, leLine (by show 2 ≤ 1000000; decide), fun q4 h4 => ?_⟩⟩
    have stA := st9.but nap ngp sbA hpA
    refine ⟨q4, rfl, ⟨_, seq_of upd_same⟩, for_list (K := K) (a := q4) (xs := [.int (z - r1), .int (1 + r2)]) (fun i σ H' => ∃ v6 : Option V, σ = [some (.ref sc), some (.ref p), some (.ref a), some (.ref l), some (.ref g), some (.int z), v6, none, none] ∧ Same (upd HA q4 (.lst [.int (z - r1), .int (1 + r2)])) H')
      ⟨none, rfl, Same.refl _⟩ (fun i σ H' _ ⟨_, _, s⟩ => s.seq (seq_of upd_same)) ?_ ?_⟩
    · rintro i x σ HB hi ⟨v6, rfl, sB⟩
      obtain ⟨lim, rfl, hlim⟩ : ∃ lim : Int, x = .int lim ∧ lim ≤ 20000 := by
        have hm := List.mem_of_getElem? hi
        simp only [List.mem_cons, List.not_mem_nil, or_false] at hm
        rcases hm with rfl | rfl
        · exact ⟨_, rfl, by omega⟩
        · exact ⟨_, rfl, by omega⟩
      have stB := (stA.same (same_upd h4)).same sB
      refine ⟨_, rfl, lim, 0, rfl, rfl, _, rfl, ite2 (fun c => ?_) (fun c => ?_)⟩
      · have c' : 0 < lim := of_decide_eq_true c
        refine ⟨_, rfl, _, rfl, _, rfl, _, rfl, a, l, g, lim, D, T, L, Z, gapL D T L Z, rfl, seq_of stB.1, stB.2.1, ok, by omega, hlim, seq_of stB.2.2.1, gapL_at D T L Z, fun HC sC => ⟨_, rfl, iteF ?_⟩⟩
        exact ⟨_, rfl, sB.trans sC⟩
      · exact iteF ⟨_, rfl, sB⟩
    · rintro σ HB ⟨v6, rfl, sB⟩
      have stB := (stA.same (same_upd h4)).same sB
      -- the odd limits
      refine ⟨1, rfl, leLine (by show 6 ≤ 1000000; decide), fun q5 h5 => ?_⟩
      have nq5 : q5 ≠ p := by
        obtain ⟨x, y, e, _⟩ := stB.2.2.2
        exact (ne_of_none e h5).symm
      refine ⟨q5, rfl, ⟨_, seq_of upd_same⟩, for_list (K := K) (a := q5) (xs := odds) (fun i σ H' => ∃ v7 : Option V, σ = [some (.ref sc), some (.ref p), some (.ref a), some (.ref l), some (.ref g), some (.int z), v6, v7, none] ∧ Stb CL a l g p D T L Z H' ∧ H' q5 = some (.lst odds))
        ⟨none, rfl, stB.same (same_upd h5), upd_same⟩ (fun i σ H' _ ⟨_, _, _, e⟩ => seq_of e) ?_ ?_⟩
      · rintro i x σ HC hi ⟨v7, rfl, stC, eq5⟩
        obtain ⟨hsc, hbt, hsh⟩ := odds_ok (List.mem_of_getElem? hi)
        refine ⟨_, rfl, leLine (by show 2 ≤ 1000000; decide), fun q6 h6 => ?_⟩
        have s6 := same_upd (o := .lst [.ref fP, .ref fF]) h6
        have stD := stC.same s6
        refine ⟨p, q6, [.ref fP, .ref fF], rfl, stD.2.2.2, seq_of upd_same, (by obtain ⟨x, y, e, _⟩ := stC.2.2.2; exact (ne_of_none e h6).symm), (by show 0 < 2; decide), (by show 2 < 1000; decide), fun v HE hv hpE sbE => ?_⟩
        have stE := stD.but nap ngp sbE hpE
        obtain ⟨ff, hff, rfl⟩ : ∃ ff, isPF fP fF ff ∧ v = .ref ff := by
          simp only [List.mem_cons, List.not_mem_nil, or_false] at hv
          rcases hv with rfl | rfl
          · exact ⟨fP, .inl rfl, rfl⟩
          · exact ⟨fF, .inr rfl, rfl⟩
        have eE := sbE _ _ (s6 _ _ eq5) nq5
        refine ⟨_, rfl, _, rfl, ff, l, x, D, T, L, Z, rfl, hff, stE.2.1, ok, hsc, hbt, fun r HG sG er => ?_⟩
        refine ⟨_, rfl, leLine (by show 2 ≤ 1000000; decide), fun q7 h7 => ?_⟩
        have s7' := same_upd (o := .lst [.str "number", x]) h7
        refine ⟨toldD x, toldD x, told_dp hsc (s7' _ _ er), told_dp hsc upd_same, hsh, hsh, _, rfl, ?_⟩
        rw [SeqAt.eqv_refl _ (SeqAt.canLay_of_shaped hsh)]
        refine iteF ?_
        exact ⟨_, rfl, (stE.same sG).same s7', s7' _ _ (sG _ _ eE)⟩
      · rintro σ HC ⟨v7, rfl, stC, eq5⟩
        exact q HC
end
end GP
namespace GP
open PySem PySem.Spec PyProof.Rows L2
theorem exm_self {K : PySem.W.Frag} {S : Addr} (h1 : PySem.W.subIn K (.ref S) (.type "BaseException") = some true) (h2 : PySem.W.isClsIn K S = true) (h3 : PySem.W.typeIn K (.ref S) = some (.type "type")) (h4 : PySem.W.subIn K (.ref S) (.ref S) = some true) :
    PySem.W.exmOne K (.ref S) (.ref S) = some true := by
  have e1 : (PySem.W.subIn K (.ref S) (.type "BaseException") == some true) = true := by rw [h1] <;> rfl
  have e2 : ((PySem.W.clsIn K S).isSome && PySem.W.typeIn K (.ref S) == some (.type "type")) = true := by
    have h2' : (PySem.W.clsIn K S).isSome = true := h2
    rw [h2', h3] <;> rfl
  show (if (PySem.W.subIn K (.ref S) (.type "BaseException") == some true) = true then (if ((PySem.W.clsIn K S).isSome && PySem.W.typeIn K (.ref S) == some (.type "type")) = true then PySem.W.subIn K (.ref S) (.ref S) else none) else none) = some true
  rw [if_pos e1, if_pos e2]
  exact h4
/-- what the top has written, each a fact that k_is finds; the law keeps its promise -/
theorem all_mk {P : Program} {w : World} {K : PySem.W.Frag} {h : Heap} {mg : Str → Option Value} {fa : Addr} (X : K.In h) (G : h.Ns mainGlobals mg) (hfa : mg "law" = some (.ref fa))
    {fa01 fa02 fa03 fa04 fa05 fa06 fa07 fa08 fa09 fa10 fa11 fa12 fa13 fa14 fa15 fa16 fa17 fa18 fa19 fa20 fa21 fa22 fL CL C N WE fI cda cc : Addr}
    {oda01 oda02 oda03 oda04 oda05 oda06 oda07 oda08 oda09 oda10 oda11 oda12 oda13 oda14 oda15 oda16 oda17 oda18 oda19 oda20 oda21 oda22 odL odI : Option Addr}
    {ana01 ana02 ana03 ana04 ana05 ana06 ana07 ana08 ana09 ana10 ana11 ana12 ana13 ana14 ana15 ana16 ana17 ana18 ana19 ana20 ana21 ana22 anL anI : Option Addr}
    {sla01 sla02 sla03 sla04 sla05 sla06 sla07 sla08 sla09 sla10 sla11 sla12 sla13 sla14 sla15 sla16 sla17 sla18 sla19 sla20 sla21 sla22 slL slI : Array (Option Value)}
    {oca01 kVa01 dca01 pma01 cda01 cta01 oca02 kVa02 dca02 pma02 cda02 cta02 oca03 kVa03 dca03 pma03 cda03 cta03 oca04 kVa04 dca04 pma04 cda04 cta04 oca05 kVa05 dca05 pma05 cda05 cta05 oca06 kVa06 dca06 pma06 cda06 cta06 oca07 kVa07 dca07 pma07 cda07 cta07 oca08 kVa08 dca08 pma08 cda08 cta08 oca09 kVa09 dca09 pma09 cda09 cta09 oca10 kVa10 dca10 pma10 cda10 cta10 oca11 kVa11 dca11 pma11 cda11 cta11 oca12 kVa12 dca12 pma12 cda12 cta12 oca13 kVa13 dca13 pma13 cda13 cta13 oca14 kVa14 dca14 pma14 cda14 cta14 oca15 kVa15 dca15 pma15 cda15 cta15 oca16 kVa16 dca16 pma16 cda16 cta16 oca17 kVa17 dca17 pma17 cda17 cta17 oca18 kVa18 dca18 pma18 cda18 cta18 oca19 kVa19 dca19 pma19 cda19 cta19 oca20 kVa20 dca20 pma20 cda20 cta20 oca21 kVa21 dca21 pma21 cda21 cta21 oca22 kVa22 dca22 pma22 cda22 cta22 ocL kVL dcL pmL cdL ctL ocI dcI pmI ctI : Value}
    {tturn tlosses tquiet tperiod tdelay tlimit tf : Tok}
    {nm q file : Str} {bs : List Value} {sn : List Str} {sub : List Value} {ab : Bool} {col : Option Bool} {dd cdd cld : Option Addr} {m0 m1 m2 m3 m5 : Option Value} {ccl cl : Value} {vs : Array Value} {ccs csl : Array (Option Value)}
    (hna01 : PySem.W.nsIn K mainGlobals "is_integer" = some (some (.ref fa01)))
    (hla01 : K.lookup fa01 = some ⟨oca01, oda01, .func (PySem.W.fnOf "is_integer" "is_integer" (defArgs sInteger) (defBody sInteger) (defScope sInteger) .none kVa01 dca01 pma01 ana01 cda01 cta01), sla01⟩)
    (hca01 : PySem.W.codeIn K cda01 "is_integer" = true)
    (hka01 : PySem.W.keepIn K (.ref fa01) = true)
    (hna02 : PySem.W.nsIn K mainGlobals "is_between" = some (some (.ref fa02)))
    (hla02 : K.lookup fa02 = some ⟨oca02, oda02, .func (PySem.W.fnOf "is_between" "is_between" (defArgs sBetween) (defBody sBetween) (defScope sBetween) .none kVa02 dca02 pma02 ana02 cda02 cta02), sla02⟩)
    (hca02 : PySem.W.codeIn K cda02 "is_between" = true)
    (hka02 : PySem.W.keepIn K (.ref fa02) = true)
    (hna03 : PySem.W.nsIn K mainGlobals "is_list" = some (some (.ref fa03)))
    (hla03 : K.lookup fa03 = some ⟨oca03, oda03, .func (PySem.W.fnOf "is_list" "is_list" (defArgs sIsList) (defBody sIsList) (defScope sIsList) .none kVa03 dca03 pma03 ana03 cda03 cta03), sla03⟩)
    (hca03 : PySem.W.codeIn K cda03 "is_list" = true)
    (hka03 : PySem.W.keepIn K (.ref fa03) = true)
    (hna04 : PySem.W.nsIn K mainGlobals "check_part" = some (some (.ref fa04)))
    (hla04 : K.lookup fa04 = some ⟨oca04, oda04, .func (PySem.W.fnOf "check_part" "check_part" (defArgs sPart) (defBody sPart) (defScope sPart) .none kVa04 dca04 pma04 ana04 cda04 cta04), sla04⟩)
    (hca04 : PySem.W.codeIn K cda04 "check_part" = true)
    (hka04 : PySem.W.keepIn K (.ref fa04) = true)
    (hna05 : PySem.W.nsIn K mainGlobals "checked_signs" = some (some (.ref fa05)))
    (hla05 : K.lookup fa05 = some ⟨oca05, oda05, .func (PySem.W.fnOf "checked_signs" "checked_signs" (defArgs sChecked) (defBody sChecked) (defScope sChecked) .none kVa05 dca05 pma05 ana05 cda05 cta05), sla05⟩)
    (hca05 : PySem.W.codeIn K cda05 "checked_signs" = true)
    (hka05 : PySem.W.keepIn K (.ref fa05) = true)
    (hna06 : PySem.W.nsIn K mainGlobals "stops" = some (some (.ref fa06)))
    (hla06 : K.lookup fa06 = some ⟨oca06, oda06, .func (PySem.W.fnOf "stops" "stops" (defArgs sStops) (defBody sStops) (defScope sStops) .none kVa06 dca06 pma06 ana06 cda06 cta06), sla06⟩)
    (hca06 : PySem.W.codeIn K cda06 "stops" = true)
    (hka06 : PySem.W.keepIn K (.ref fa06) = true)
    (hna07 : PySem.W.nsIn K mainGlobals "quiet_gap" = some (some (.ref fa07)))
    (hla07 : K.lookup fa07 = some ⟨oca07, oda07, .func (PySem.W.fnOf "quiet_gap" "quiet_gap" (defArgs sGap) (defBody sGap) (defScope sGap) .none kVa07 dca07 pma07 ana07 cda07 cta07), sla07⟩)
    (hca07 : PySem.W.codeIn K cda07 "quiet_gap" = true)
    (hka07 : PySem.W.keepIn K (.ref fa07) = true)
    (hna08 : PySem.W.nsIn K mainGlobals "period_signs" = some (some (.ref fa08)))
    (hla08 : K.lookup fa08 = some ⟨oca08, oda08, .func (PySem.W.fnOf "period_signs" "period_signs" (defArgs sSigns) (defBody sSigns) (defScope sSigns) .none kVa08 dca08 pma08 ana08 cda08 cta08), sla08⟩)
    (hca08 : PySem.W.codeIn K cda08 "period_signs" = true)
    (hka08 : PySem.W.keepIn K (.ref fa08) = true)
    (hna09 : PySem.W.nsIn K mainGlobals "check_limit" = some (some (.ref fa09)))
    (hla09 : K.lookup fa09 = some ⟨oca09, oda09, .func (PySem.W.fnOf "check_limit" "check_limit" (defArgs sLimit) (defBody sLimit) (defScope sLimit) .none kVa09 dca09 pma09 ana09 cda09 cta09), sla09⟩)
    (hca09 : PySem.W.codeIn K cda09 "check_limit" = true)
    (hka09 : PySem.W.keepIn K (.ref fa09) = true)
    (hna10 : PySem.W.nsIn K mainGlobals "good_list" = some (some (.ref fa10)))
    (hla10 : K.lookup fa10 = some ⟨oca10, oda10, .func (PySem.W.fnOf "good_list" "good_list" (defArgs sGoodL) (defBody sGoodL) (defScope sGoodL) .none kVa10 dca10 pma10 ana10 cda10 cta10), sla10⟩)
    (hca10 : PySem.W.codeIn K cda10 "good_list" = true)
    (hka10 : PySem.W.keepIn K (.ref fa10) = true)
    (hna11 : PySem.W.nsIn K mainGlobals "good_periods" = some (some (.ref fa11)))
    (hla11 : K.lookup fa11 = some ⟨oca11, oda11, .func (PySem.W.fnOf "good_periods" "good_periods" (defArgs sGoodP) (defBody sGoodP) (defScope sGoodP) .none kVa11 dca11 pma11 ana11 cda11 cta11), sla11⟩)
    (hca11 : PySem.W.codeIn K cda11 "good_periods" = true)
    (hka11 : PySem.W.keepIn K (.ref fa11) = true)
    (hna12 : PySem.W.nsIn K mainGlobals "fewest_signs" = some (some (.ref fa12)))
    (hla12 : K.lookup fa12 = some ⟨oca12, oda12, .func (PySem.W.fnOf "fewest_signs" "fewest_signs" (defArgs sFewest) (defBody sFewest) (defScope sFewest) .none kVa12 dca12 pma12 ana12 cda12 cta12), sla12⟩)
    (hca12 : PySem.W.codeIn K cda12 "fewest_signs" = true)
    (hka12 : PySem.W.keepIn K (.ref fa12) = true)
    (hna13 : PySem.W.nsIn K mainGlobals "_law_pool" = some (some (.ref fa13)))
    (hla13 : K.lookup fa13 = some ⟨oca13, oda13, .func (PySem.W.fnOf "_law_pool" "_law_pool" (defArgs sLPool) (defBody sLPool) (defScope sLPool) .none kVa13 dca13 pma13 ana13 cda13 cta13), sla13⟩)
    (hca13 : PySem.W.codeIn K cda13 "_law_pool" = true)
    (hka13 : PySem.W.keepIn K (.ref fa13) = true)
    (hna14 : PySem.W.nsIn K mainGlobals "_law_take" = some (some (.ref fa14)))
    (hla14 : K.lookup fa14 = some ⟨oca14, oda14, .func (PySem.W.fnOf "_law_take" "_law_take" (defArgs sLTake) (defBody sLTake) (defScope sLTake) .none kVa14 dca14 pma14 ana14 cda14 cta14), sla14⟩)
    (hca14 : PySem.W.codeIn K cda14 "_law_take" = true)
    (hka14 : PySem.W.keepIn K (.ref fa14) = true)
    (hna15 : PySem.W.nsIn K mainGlobals "_law_one" = some (some (.ref fa15)))
    (hla15 : K.lookup fa15 = some ⟨oca15, oda15, .func (PySem.W.fnOf "_law_one" "_law_one" (defArgs sLOne) (defBody sLOne) (defScope sLOne) .none kVa15 dca15 pma15 ana15 cda15 cta15), sla15⟩)
    (hca15 : PySem.W.codeIn K cda15 "_law_one" = true)
    (hka15 : PySem.W.keepIn K (.ref fa15) = true)
    (hna16 : PySem.W.nsIn K mainGlobals "_law_lull" = some (some (.ref fa16)))
    (hla16 : K.lookup fa16 = some ⟨oca16, oda16, .func (PySem.W.fnOf "_law_lull" "_law_lull" (defArgs sLLull) (defBody sLLull) (defScope sLLull) .none kVa16 dca16 pma16 ana16 cda16 cta16), sla16⟩)
    (hca16 : PySem.W.codeIn K cda16 "_law_lull" = true)
    (hka16 : PySem.W.keepIn K (.ref fa16) = true)
    (hna17 : PySem.W.nsIn K mainGlobals "_law_stops" = some (some (.ref fa17)))
    (hla17 : K.lookup fa17 = some ⟨oca17, oda17, .func (PySem.W.fnOf "_law_stops" "_law_stops" (defArgs sLStops) (defBody sLStops) (defScope sLStops) .none kVa17 dca17 pma17 ana17 cda17 cta17), sla17⟩)
    (hca17 : PySem.W.codeIn K cda17 "_law_stops" = true)
    (hka17 : PySem.W.keepIn K (.ref fa17) = true)
    (hna18 : PySem.W.nsIn K mainGlobals "_law_gap" = some (some (.ref fa18)))
    (hla18 : K.lookup fa18 = some ⟨oca18, oda18, .func (PySem.W.fnOf "_law_gap" "_law_gap" (defArgs sLGap) (defBody sLGap) (defScope sLGap) .none kVa18 dca18 pma18 ana18 cda18 cta18), sla18⟩)
    (hca18 : PySem.W.codeIn K cda18 "_law_gap" = true)
    (hka18 : PySem.W.keepIn K (.ref fa18) = true)
    (hna19 : PySem.W.nsIn K mainGlobals "_law_told" = some (some (.ref fa19)))
    (hla19 : K.lookup fa19 = some ⟨oca19, oda19, .func (PySem.W.fnOf "_law_told" "_law_told" (defArgs sLTold) (defBody sLTold) (defScope sLTold) .none kVa19 dca19 pma19 ana19 cda19 cta19), sla19⟩)
    (hca19 : PySem.W.codeIn K cda19 "_law_told" = true)
    (hka19 : PySem.W.keepIn K (.ref fa19) = true)
    (hna20 : PySem.W.nsIn K mainGlobals "_law_spans" = some (some (.ref fa20)))
    (hla20 : K.lookup fa20 = some ⟨oca20, oda20, .func (PySem.W.fnOf "_law_spans" "_law_spans" (defArgs sLSpans) (defBody sLSpans) (defScope sLSpans) .none kVa20 dca20 pma20 ana20 cda20 cta20), sla20⟩)
    (hca20 : PySem.W.codeIn K cda20 "_law_spans" = true)
    (hka20 : PySem.W.keepIn K (.ref fa20) = true)
    (hna21 : PySem.W.nsIn K mainGlobals "_law_limit_right" = some (some (.ref fa21)))
    (hla21 : K.lookup fa21 = some ⟨oca21, oda21, .func (PySem.W.fnOf "_law_limit_right" "_law_limit_right" (defArgs sLRight) (defBody sLRight) (defScope sLRight) .none kVa21 dca21 pma21 ana21 cda21 cta21), sla21⟩)
    (hca21 : PySem.W.codeIn K cda21 "_law_limit_right" = true)
    (hka21 : PySem.W.keepIn K (.ref fa21) = true)
    (hna22 : PySem.W.nsIn K mainGlobals "law" = some (some (.ref fa22)))
    (hla22 : K.lookup fa22 = some ⟨oca22, oda22, .func (PySem.W.fnOf "law" "law" (defArgs sLaw) (defBody sLaw) (defScope sLaw) .none kVa22 dca22 pma22 ana22 cda22 cta22), sla22⟩)
    (hca22 : PySem.W.codeIn K cda22 "law" = true)
    (hka22 : PySem.W.keepIn K (.ref fa22) = true)
    (hbint : PySem.W.nsIn K mainGlobals "int" = some none)
    (hbbool : PySem.W.nsIn K mainGlobals "bool" = some none)
    (hblist : PySem.W.nsIn K mainGlobals "list" = some none)
    (hbtuple : PySem.W.nsIn K mainGlobals "tuple" = some none)
    (hbrange : PySem.W.nsIn K mainGlobals "range" = some none)
    (hbenum : PySem.W.nsIn K mainGlobals "enumerate" = some none)
    (hblen : PySem.W.nsIn K mainGlobals "len" = some none)
    (hbmax : PySem.W.nsIn K mainGlobals "max" = some none)
    (hbmin : PySem.W.nsIn K mainGlobals "min" = some none)
    (hbisi : PySem.W.nsIn K mainGlobals "isinstance" = some none)
    (hmturn : PySem.W.nsIn K mainGlobals "MOST_TURN" = some (some (.int 200 tturn)))
    (hmlosses : PySem.W.nsIn K mainGlobals "MOST_LOSSES" = some (some (.int 3 tlosses)))
    (hmquiet : PySem.W.nsIn K mainGlobals "MOST_QUIET" = some (some (.int 500 tquiet)))
    (hmperiod : PySem.W.nsIn K mainGlobals "MOST_PERIOD" = some (some (.int 200 tperiod)))
    (hmdelay : PySem.W.nsIn K mainGlobals "MOST_DELAY" = some (some (.int 50 tdelay)))
    (hmlimit : PySem.W.nsIn K mainGlobals "MOST_LIMIT" = some (some (.int 20000 tlimit)))
    (hnL : PySem.W.nsIn K mainGlobals "Lull" = some (some (.ref CL)))
    (hiL : PySem.W.findIn K (.ref CL) "__init__" = some (some (.ref fL)))
    (hjL : PySem.W.isFn K (.ref fL) = true)
    (hlL : K.lookup fL = some ⟨ocL, odL, .func (PySem.W.fnOf "__init__" "Lull.__init__" (defArgs sLullI) (defBody sLullI) (defScope sLullI) .none kVL dcL pmL anL cdL ctL), slL⟩)
    (hcL : PySem.W.codeIn K cdL "Lull.__init__" = true)
    (hkL : PySem.W.keepIn K (.ref fL) = true)
    (hpgL : PySem.W.plainGet K CL Str.empty = true)
    (hhdL : PySem.W.hasDictIn K CL = true)
    (hpoL : PySem.W.plainOver K CL = true)
    (hsaL : PySem.W.findIn K (.ref CL) "__setattr__" = some (some (.builtin "object.__setattr__")))
    (hmkL : PySem.W.makesIn K CL = true)
    (hkcL : PySem.W.keepIn K (.ref CL) = true)
    (hqD : PySem.W.findIn K (.ref CL) "delay" = some none)
    (hqT : PySem.W.findIn K (.ref CL) "turn" = some none)
    (hqL : PySem.W.findIn K (.ref CL) "losses" = some none)
    (hqZ : PySem.W.findIn K (.ref CL) "quiet" = some none)
    (hnC : PySem.W.nsIn K mainGlobals "BadNumber" = some (some (.ref C)))
    (hxC : K.lookup C = some (excClassObj nm q C N bs [.ref WE, .type "ValueError", .type "Exception", .type "BaseException", .type "object"] true sn sub ab col dd m0 m1 m2 m3 m5 "ValueError.__new__"))
    (hsaC : PySem.W.findIn K (.ref C) "__setattr__" = some (some (.builtin "object.__setattr__")))
    (hgaC : PySem.W.findIn K (.ref C) "__getattribute__" = some (some (.builtin "BaseException.__getattribute__")))
    (hggC : PySem.W.findIn K (.ref C) "__getattr__" = some none)
    (hnbC : PySem.W.findIn K (.ref C) "number" = some none)
    (hiC : PySem.W.findIn K (.ref C) "__init__" = some (some (.ref fI)))
    (htI : PySem.W.typeIn K (.ref fI) = some (.type "function"))
    (hkC : PySem.W.keepIn K (.ref C) = true)
    (heC : PySem.W.subIn K (.ref C) (.type "BaseException") = some true)
    (hvC : PySem.W.subIn K (.ref C) (.type "ValueError") = some true)
    (hoC : PySem.W.mroIn K C (.ref C) = some true)
    (htC : PySem.W.typeIn K (.ref C) = some (.type "type"))
    (hhC : PySem.W.hasDictIn K C = true)
    (hjC : PySem.W.isClsIn K C = true)
    (hsC : PySem.W.subIn K (.ref C) (.ref C) = some true)
    (hsup : PySem.W.nsIn K mainGlobals "super" = some none)
    (hopq : PySem.W.nsIn K PySem.cStatics "thirdparty.any" = some none)
    (hsIn : PySem.W.ks_superIn K C C "__init__" = some (some (.builtin "ValueError.__init__")))
    (hlI : K.lookup fI = some ⟨ocI, odI, .func (PySem.W.ksFn "__init__" "BadNumber.__init__" (defArgs sNumI) (defBody sNumI) (defScope sNumI) .none .none dcI pmI anI (.ref cda) ctI cc), slI⟩)
    (hcI : PySem.W.codeIn K (.ref cda) "BadNumber.__init__" = true)
    (hdI : K.lookup cda = some ⟨ccl, cdd, .fields vs, ccs⟩)
    (hvI : vs[2]? = some (.str file tf))
    (hfI0 : ((P.main.file : Str) == file) = true)
    (heI : K.lookup cc = some ⟨cl, cld, .cell (some (.ref C)), csl⟩)
    (htop0 : (P.main.scope.names.lookup ("super" : Str)).isSome = false)
    : ∃ fd : FuncData, (∀ (s : Shared) (v : Value), BindsTo s fd ⟨[v], []⟩ [("_law_script", v)]) ∧ ∀ base : Heap, K.In base → base.Ns mainGlobals mg → FnOk P w K mg base CX0 9 fa fd ["_law_script"] (spLaw K) := by
  have e := hfa.symm.trans (PySem.W.mg_of X G hna22)
  cases e
  have B : Blt mg := ⟨PySem.W.mg_none_of X G hbint, PySem.W.mg_none_of X G hbbool, PySem.W.mg_none_of X G hblist, PySem.W.mg_none_of X G hbtuple, PySem.W.mg_none_of X G hbrange, PySem.W.mg_none_of X G hbenum, PySem.W.mg_none_of X G hblen, PySem.W.mg_none_of X G hbmax, PySem.W.mg_none_of X G hbmin, PySem.W.mg_none_of X G hbisi⟩
  have M : Cst mg := ⟨⟨_, PySem.W.mg_of X G hmturn⟩, ⟨_, PySem.W.mg_of X G hmlosses⟩, ⟨_, PySem.W.mg_of X G hmquiet⟩, ⟨_, PySem.W.mg_of X G hmperiod⟩, ⟨_, PySem.W.mg_of X G hmdelay⟩, ⟨_, PySem.W.mg_of X G hmlimit⟩⟩
  have T0 : LT K CL := ⟨⟨hpgL, hhdL, hpoL, hsaL⟩, hqD, hqT, hqL, hqZ⟩
  have MK : Mk K CL fL := ⟨hmkL, hiL, hjL, hkcL⟩
  have num : NumTxt P K mg C fI :=
    { gC := PySem.W.mg_of X G hnC, cls := ⟨nm, q, N, bs, _, sn, sub, ab, col, dd, m0, m1, m2, m3, m5, hxC, rfl⟩, sa := hsaC, ga := hgaC, gg := hggC, noN := hnbC, iC := hiC, tC := htI, kC := hkC, exC := heC, veC := hvC, ownC := hoC, tyC := htC, hdC := hhC, te := exm_self heC hjC htC hsC,
      sup := PySem.W.mg_none_of X G hsup, opq := hopq, sIn := hsIn, fn := ⟨_, _, _, _, _, _, _, _, _, _, _, _, _, _, _, _, _, _, hlI, hcI, hdI, hvI, hfI0, heI⟩, top := htop0 }
  have Fa01 := fun_mk (st := sInteger) hla01 hca01 hka01
  have Fa02 := fun_mk (st := sBetween) hla02 hca02 hka02
  have Fa03 := fun_mk (st := sIsList) hla03 hca03 hka03
  have Fa04 := fun_mk (st := sPart) hla04 hca04 hka04
  have Fa05 := fun_mk (st := sChecked) hla05 hca05 hka05
  have Fa06 := fun_mk (st := sStops) hla06 hca06 hka06
  have Fa07 := fun_mk (st := sGap) hla07 hca07 hka07
  have Fa08 := fun_mk (st := sSigns) hla08 hca08 hka08
  have Fa09 := fun_mk (st := sLimit) hla09 hca09 hka09
  have Fa10 := fun_mk (st := sGoodL) hla10 hca10 hka10
  have Fa11 := fun_mk (st := sGoodP) hla11 hca11 hka11
  have Fa12 := fun_mk (st := sFewest) hla12 hca12 hka12
  have Fa13 := fun_mk (st := sLPool) hla13 hca13 hka13
  have Fa14 := fun_mk (st := sLTake) hla14 hca14 hka14
  have Fa15 := fun_mk (st := sLOne) hla15 hca15 hka15
  have Fa16 := fun_mk (st := sLLull) hla16 hca16 hka16
  have Fa17 := fun_mk (st := sLStops) hla17 hca17 hka17
  have Fa18 := fun_mk (st := sLGap) hla18 hca18 hka18
  have Fa19 := fun_mk (st := sLTold) hla19 hca19 hka19
  have Fa20 := fun_mk (st := sLSpans) hla20 hca20 hka20
  have Fa21 := fun_mk (st := sLRight) hla21 hca21 hka21
  have Fa22 := fun_mk (st := sLaw) hla22 hca22 hka22
  have FL := fun_mk (st := sLullI) hlL hcL hkL
  have Ba01 := Fa01.binds (ps := ["value"]) fun _ _ _ _ _ _ us hl => match us, hl with | [_], _ => rfl
  have Ba02 := Fa02.binds (ps := ["value", "least", "most"]) fun _ _ _ _ _ _ us hl => match us, hl with | [_, _, _], _ => rfl
  have Ba03 := Fa03.binds (ps := ["value"]) fun _ _ _ _ _ _ us hl => match us, hl with | [_], _ => rfl
  have Ba04 := Fa04.binds (ps := ["value", "least", "most", "word"]) fun _ _ _ _ _ _ us hl => match us, hl with | [_, _, _, _], _ => rfl
  have Ba05 := Fa05.binds (ps := ["lull", "signs"]) fun _ _ _ _ _ _ us hl => match us, hl with | [_, _], _ => rfl
  have Ba06 := Fa06.binds (ps := ["lull", "signs"]) fun _ _ _ _ _ _ us hl => match us, hl with | [_, _], _ => rfl
  have Ba07 := Fa07.binds (ps := ["lull", "signs"]) fun _ _ _ _ _ _ us hl => match us, hl with | [_, _], _ => rfl
  have Ba08 := Fa08.binds (ps := ["lull", "period"]) fun _ _ _ _ _ _ us hl => match us, hl with | [_, _], _ => rfl
  have Ba09 := Fa09.binds (ps := ["limit"]) fun _ _ _ _ _ _ us hl => match us, hl with | [_], _ => rfl
  have Ba10 := Fa10.binds (ps := ["lull", "limit"]) fun _ _ _ _ _ _ us hl => match us, hl with | [_, _], _ => rfl
  have Ba11 := Fa11.binds (ps := ["lull", "limit"]) fun _ _ _ _ _ _ us hl => match us, hl with | [_, _], _ => rfl
  have Ba12 := Fa12.binds (ps := ["lull", "limit"]) fun _ _ _ _ _ _ us hl => match us, hl with | [_, _], _ => rfl
  have Ba13 := Fa13.binds (ps := ["_law_script", "_law_k"]) fun _ _ _ _ _ _ us hl => match us, hl with | [_, _], _ => rfl
  have Ba14 := Fa14.binds (ps := ["_law_pool_here", "_law_bound"]) fun _ _ _ _ _ _ us hl => match us, hl with | [_, _], _ => rfl
  have Ba15 := Fa15.binds (ps := ["_law_pool_here", "_law_things"]) fun _ _ _ _ _ _ us hl => match us, hl with | [_, _], _ => rfl
  have Ba16 := Fa16.binds (ps := ["_law_pool_here"]) fun _ _ _ _ _ _ us hl => match us, hl with | [_], _ => rfl
  have Ba17 := Fa17.binds (ps := ["_law_plain", "_law_signs"]) fun _ _ _ _ _ _ us hl => match us, hl with | [_, _], _ => rfl
  have Ba18 := Fa18.binds (ps := ["_law_plain", "_law_signs"]) fun _ _ _ _ _ _ us hl => match us, hl with | [_, _], _ => rfl
  have Ba19 := Fa19.binds (ps := ["_law_function", "_law_lull_here", "_law_limit"]) fun _ _ _ _ _ _ us hl => match us, hl with | [_, _, _], _ => rfl
  have Ba20 := Fa20.binds (ps := ["_law_good"]) fun _ _ _ _ _ _ us hl => match us, hl with | [_], _ => rfl
  have Ba21 := Fa21.binds (ps := ["_law_plain", "_law_lull_here", "_law_gaps", "_law_limit"]) fun _ _ _ _ _ _ us hl => match us, hl with | [_, _, _, _], _ => rfl
  have Ba22 := Fa22.binds (ps := ["_law_script"]) fun _ _ _ _ _ _ us hl => match us, hl with | [_], _ => rfl
  have BL := FL.binds (ps := ["self", "delay", "turn", "losses", "quiet"]) fun _ _ _ _ _ _ us hl => match us, hl with | [_, _, _, _, _], _ => rfl
  refine ⟨PySem.W.fnOf "law" "law" (defArgs sLaw) (defBody sLaw) (defScope sLaw) .none kVa22 dca22 pma22 ana22 cda22 cta22, fun s v => .of_eq rfl, fun base _ _ => ?_⟩
  have Ca01 := (Df.mk Fa01 (PySem.W.mg_of X G hna01) Ba01).cl (P := P) (w := w) (base := base) (ok_integer Fa01 B)
  have Ca02 := (Df.mk Fa02 (PySem.W.mg_of X G hna02) Ba02).cl (P := P) (w := w) (base := base) (ok_between Fa02 Ca01)
  have Ca03 := (Df.mk Fa03 (PySem.W.mg_of X G hna03) Ba03).cl (P := P) (w := w) (base := base) (ok_islist Fa03 B)
  have Ca04 := (Df.mk Fa04 (PySem.W.mg_of X G hna04) Ba04).cl (P := P) (w := w) (base := base) (ok_part Fa04 Ca02)
  have Ca05 := (Df.mk Fa05 (PySem.W.mg_of X G hna05) Ba05).cl (P := P) (w := w) (base := base) (ok_checked Fa05 B T0 Ca02 Ca03)
  have Ca06 := (Df.mk Fa06 (PySem.W.mg_of X G hna06) Ba06).cl (P := P) (w := w) (base := base) (ok_stops Fa06 B T0 Ca05)
  have Ca07 := (Df.mk Fa07 (PySem.W.mg_of X G hna07) Ba07).cl (P := P) (w := w) (base := base) (ok_gap Fa07 B T0 Ca06)
  have Ca08 := (Df.mk Fa08 (PySem.W.mg_of X G hna08) Ba08).cl (P := P) (w := w) (base := base) (ok_signs Fa08 B T0 M Ca02)
  have Ca09 := (Df.mk Fa09 (PySem.W.mg_of X G hna09) Ba09).cl (P := P) (w := w) (base := base) (ok_limit Fa09 num M Ca02)
  have Ca10 := (Df.mk Fa10 (PySem.W.mg_of X G hna10) Ba10).cl (P := P) (w := w) (base := base) (ok_goodl Fa10 B M Ca09 Ca07 Ca08)
  have Gp := ok_goodp (base := base) Fa11 B Ca10
  have Gf := ok_few (base := base) Fa12 T0 Ca10
  have Ca11 := (Df.mk Fa11 (PySem.W.mg_of X G hna11) Ba11).cl (P := P) (w := w) (base := base) (Gp)
  have Ca12 := (Df.mk Fa12 (PySem.W.mg_of X G hna12) Ba12).cl (P := P) (w := w) (base := base) (Gf)
  have Ca13 := (Df.mk Fa13 (PySem.W.mg_of X G hna13) Ba13).cl (P := P) (w := w) (base := base) (ok_pool Fa13 B)
  have Ca14 := (Df.mk Fa14 (PySem.W.mg_of X G hna14) Ba14).cl (P := P) (w := w) (base := base) (ok_take Fa14 B)
  have Ca15 := (Df.mk Fa15 (PySem.W.mg_of X G hna15) Ba15).cl (P := P) (w := w) (base := base) (ok_one Fa15 B Ca14)
  have Ca16 := (Df.mk Fa16 (PySem.W.mg_of X G hna16) Ba16).cl (P := P) (w := w) (base := base) (ok_llull Fa16 Ca14)
  have Ca17 := (Df.mk Fa17 (PySem.W.mg_of X G hna17) Ba17).cl (P := P) (w := w) (base := base) (ok_lstops Fa17 B)
  have Ca18 := (Df.mk Fa18 (PySem.W.mg_of X G hna18) Ba18).cl (P := P) (w := w) (base := base) (ok_lgap Fa18 B Ca17)
  have hF : ∀ f, isPF fa11 fa12 f → CalF P w K mg base C CL f := by
    rintro f (rfl | rfl)
    · exact ⟨⟨_, _, FnOk.imp Gp (fun _ _ _ _ z => spOdd_p z), hka11, Ba11⟩⟩
    · exact ⟨⟨_, _, FnOk.imp Gf (fun _ _ _ _ z => spOdd_f z), hka12, Ba12⟩⟩
  have Ca19 := (Df.mk Fa19 (PySem.W.mg_of X G hna19) Ba19).cl (P := P) (w := w) (base := base) (ok_told Fa19 num hF)
  have Ca20 := (Df.mk Fa20 (PySem.W.mg_of X G hna20) Ba20).cl (P := P) (w := w) (base := base) (ok_lspans Fa20)
  have Ca21 := (Df.mk Fa21 (PySem.W.mg_of X G hna21) Ba21).cl (P := P) (w := w) (base := base) (ok_right Fa21 B Ca11 Ca12 Ca20)
  exact ok_law Fa22 B MK (PySem.W.mg_of X G hnL) (ok_lulli FL T0 M Ca04) BL Ca13 Ca14 Ca15 Ca16 Ca18 Ca19 Ca21 (PySem.W.mg_of X G hna11) (PySem.W.mg_of X G hna12)
end GP
open PySem PySem.W PyProof.Rows
set_option maxRecDepth 100000 in
set_option maxHeartbeats 0 in
theorem PySem.Challenge.cw_wholeline_k32_whole_good_periods_holds : PySem.Challenge.rw_wholeline_k32_whole_good_periods.Holds := by
  w_on; o_law; k_head; (case hw => w_witness2)
  k_fill
  refine L2.walk_of (l := PySem.Challenge.rw_wholeline_k32_whole_good_periods) (n := 63) (k := 9) (x := "_law_script") (CX := fun _ => L2.CX0) (sp := fun w => GP.spLaw _) rfl (by decide) rfl ⟨rfl, by decide, by decide⟩ (fun w h Y => PySem.W.kIn_of Y) ?F (fun _ _ a ns _ _ hS => ⟨a, ns, rfl, hS, fun _ => rfl⟩) (fun _ _ _ _ _ z => z)
  case F =>
    intro w mg fa h KX G hmg
    refine' GP.all_mk KX G hmg ?na01 ?la01 ?ca01 ?ka01 ?na02 ?la02 ?ca02 ?ka02 ?na03 ?la03 ?ca03 ?ka03 ?na04 ?la04 ?ca04 ?ka04 ?na05 ?la05 ?ca05 ?ka05 ?na06 ?la06 ?ca06 ?ka06 ?na07 ?la07 ?ca07 ?ka07 ?na08 ?la08 ?ca08 ?ka08 ?na09 ?la09 ?ca09 ?ka09 ?na10 ?la10 ?ca10 ?ka10 ?na11 ?la11 ?ca11 ?ka11 ?na12 ?la12 ?ca12 ?ka12 ?na13 ?la13 ?ca13 ?ka13 ?na14 ?la14 ?ca14 ?ka14 ?na15 ?la15 ?ca15 ?ka15 ?na16 ?la16 ?ca16 ?ka16 ?na17 ?la17 ?ca17 ?ka17 ?na18 ?la18 ?ca18 ?ka18 ?na19 ?la19 ?ca19 ?ka19 ?na20 ?la20 ?ca20 ?ka20 ?na21 ?la21 ?ca21 ?ka21 ?na22 ?la22 ?ca22 ?ka22 ?bint ?bbool ?blist ?btuple ?brange ?benum ?blen ?bmax ?bmin ?bisi ?mturn ?mlosses ?mquiet ?mperiod ?mdelay ?mlimit ?nL ?iL ?jL ?lL ?cL ?kL ?pgL ?hdL ?poL ?saL ?mkL ?kcL ?qD ?qT ?qL ?qZ ?nC ?xC ?saC ?gaC ?ggC ?nbC ?iC ?tI ?kC ?eC ?vC ?oC ?tC ?hC ?jC ?sC ?sup ?opq ?sIn ?lI ?cI ?dI ?vI ?fI0 ?eI ?top0
    (case na01 => k_is)
    (case la01 => k_is)
    (case ca01 => k_is)
    (case ka01 => k_is)
    (case na02 => k_is)
    (case la02 => k_is)
    (case ca02 => k_is)
    (case ka02 => k_is)
    (case na03 => k_is)
    (case la03 => k_is)
    (case ca03 => k_is)
    (case ka03 => k_is)
    (case na04 => k_is)
    (case la04 => k_is)
    (case ca04 => k_is)
    (case ka04 => k_is)
    (case na05 => k_is)
    (case la05 => k_is)
    (case ca05 => k_is)
    (case ka05 => k_is)
    (case na06 => k_is)
    (case la06 => k_is)
    (case ca06 => k_is)
    (case ka06 => k_is)
    (case na07 => k_is)
    (case la07 => k_is)
    (case ca07 => k_is)
    (case ka07 => k_is)
    (case na08 => k_is)
    (case la08 => k_is)
    (case ca08 => k_is)
    (case ka08 => k_is)
    (case na09 => k_is)
    (case la09 => k_is)
    (case ca09 => k_is)
    (case ka09 => k_is)
    (case na10 => k_is)
    (case la10 => k_is)
    (case ca10 => k_is)
    (case ka10 => k_is)
    (case na11 => k_is)
    (case la11 => k_is)
    (case ca11 => k_is)
    (case ka11 => k_is)
    (case na12 => k_is)
    (case la12 => k_is)
    (case ca12 => k_is)
    (case ka12 => k_is)
    (case na13 => k_is)
    (case la13 => k_is)
    (case ca13 => k_is)
    (case ka13 => k_is)
    (case na14 => k_is)
    (case la14 => k_is)
    (case ca14 => k_is)
    (case ka14 => k_is)
    (case na15 => k_is)
    (case la15 => k_is)
    (case ca15 => k_is)
    (case ka15 => k_is)
    (case na16 => k_is)
    (case la16 => k_is)
    (case ca16 => k_is)
    (case ka16 => k_is)
    (case na17 => k_is)
    (case la17 => k_is)
    (case ca17 => k_is)
    (case ka17 => k_is)
    (case na18 => k_is)
    (case la18 => k_is)
    (case ca18 => k_is)
    (case ka18 => k_is)
    (case na19 => k_is)
    (case la19 => k_is)
    (case ca19 => k_is)
    (case ka19 => k_is)
    (case na20 => k_is)
    (case la20 => k_is)
    (case ca20 => k_is)
    (case ka20 => k_is)
    (case na21 => k_is)
    (case la21 => k_is)
    (case ca21 => k_is)
    (case ka21 => k_is)
    (case na22 => k_is)
    (case la22 => k_is)
    (case ca22 => k_is)
    (case ka22 => k_is)
    (case bint => k_is)
    (case bbool => k_is)
    (case blist => k_is)
    (case btuple => k_is)
    (case brange => k_is)
    (case benum => k_is)
    (case blen => k_is)
    (case bmax => k_is)
    (case bmin => k_is)
    (case bisi => k_is)
    (case mturn => k_is)
    (case mlosses => k_is)
    (case mquiet => k_is)
    (case mperiod => k_is)
    (case mdelay => k_is)
    (case mlimit => k_is)
    (case nL => k_is)
    (case iL => k_is)
    (case jL => k_is)
    (case lL => k_is)
    (case cL => k_is)
    (case kL => k_is)
    (case pgL => k_is)
    (case hdL => k_is)
    (case poL => k_is)
    (case saL => k_is)
    (case mkL => k_is)
    (case kcL => k_is)
    (case qD => k_is)
    (case qT => k_is)
    (case qL => k_is)
    (case qZ => k_is)
    (case nC => k_is)
    (case xC => k_is)
    (case saC => k_is)
    (case gaC => k_is)
    (case ggC => k_is)
    (case nbC => k_is)
    (case iC => k_is)
    (case tI => k_is)
    (case kC => k_is)
    (case eC => k_is)
    (case vC => k_is)
    (case oC => k_is)
    (case tC => k_is)
    (case hC => k_is)
    (case jC => k_is)
    (case sC => first | k_is | rfl)
    (case sup => k_is)
    (case opq => k_is)
    (case sIn => first | ks_is | kernel_rfl)
    (case lI => k_is)
    (case cI => k_is)
    (case dI => k_is)
    (case vI => rfl)
    (case fI0 => rfl)
    (case eI => k_is)
    (case top0 => decide +kernel)
