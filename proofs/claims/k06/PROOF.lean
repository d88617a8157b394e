import PyProof.Rows.All
import Wide.All
import OpenK.AllK
import Wide.FinOn
import HandS.ForMost
import HandS.Defaults
import HandS.IsInst
import HandS.Wide
import HandS.TupLe
import HandS.Codes
import KE.KStateDown
import Lean
import HandS.Head0
import HandS.Head1
import HandS.Head2
import HandS.HeadEnd
import HandS.HeadHook1
import HandS.HeadHook2
import PySem.Challenge.RW_turnedtrees_k06_whole_plain
set_option Elab.async false
set_option linter.all false
set_option maxRecDepth 100000
set_option maxHeartbeats 8000000
/-! TtMath -/
namespace Tt
/-! ### trees, as plain data -/
inductive T where
  | lf
  | nd (l : T) (k : Int) (r : T)
namespace T
def keys : T → List Int
  | lf => []
  | nd l k r => l.keys ++ (k :: r.keys)
def ht : T → Nat
  | lf => 0
  | nd l _ r => Nat.max l.ht r.ht + 1
def tk : T → Int
  | lf => 0
  | nd _ k _ => k
def isLf : T → Bool
  | lf => true
  | nd _ _ _ => false
def Bt : T → Int → Int → Prop
  | lf, _, _ => True
  | nd l k r, lo, hi => lo ≤ k ∧ k ≤ hi ∧ l.Bt lo (k - 1) ∧ r.Bt (k + 1) hi
theorem Bt.mono : ∀ {t : T} {lo hi lo' hi' : Int}, t.Bt lo hi → lo' ≤ lo → hi ≤ hi' → t.Bt lo' hi'
  | lf, _, _, _, _, _, _, _ => trivial
  | nd l k r, lo, hi, lo', hi', ⟨h1, h2, h3, h4⟩, a, b => ⟨by omega, by omega, h3.mono a (Int.le_refl _), h4.mono (Int.le_refl _) b⟩
end T
open T
def Srt : List Int → Int → Int → Prop
  | [], _, _ => True
  | x :: xs, lo, hi => lo ≤ x ∧ x ≤ hi ∧ Srt xs (x + 1) hi
theorem srt_app : ∀ {xs ys : List Int} {x lo hi : Int}, Srt (xs ++ x :: ys) lo hi ↔ (Srt xs lo (x - 1) ∧ lo ≤ x ∧ x ≤ hi ∧ Srt ys (x + 1) hi)
  | [], ys, x, lo, hi => by
    show (lo ≤ x ∧ x ≤ hi ∧ Srt ys (x + 1) hi) ↔ (True ∧ lo ≤ x ∧ x ≤ hi ∧ Srt ys (x + 1) hi)
    exact ⟨fun h => ⟨trivial, h⟩, fun h => h.2⟩
  | a :: xs, ys, x, lo, hi => by
    have ih := srt_app (xs := xs) (ys := ys) (x := x) (lo := a + 1) (hi := hi)
    show (lo ≤ a ∧ a ≤ hi ∧ Srt (xs ++ x :: ys) (a + 1) hi) ↔ ((lo ≤ a ∧ a ≤ x - 1 ∧ Srt xs (a + 1) (x - 1)) ∧ lo ≤ x ∧ x ≤ hi ∧ Srt ys (x + 1) hi)
    rw [ih]
    constructor
    · rintro ⟨h1, h2, h3, h4, h5, h6⟩
      exact ⟨⟨h1, by omega, h3⟩, by omega, h5, h6⟩
    · rintro ⟨⟨h1, h2, h3⟩, h4, h5, h6⟩
      exact ⟨h1, by omega, h3, by omega, h5, h6⟩
theorem bt_srt : ∀ {t : T} {lo hi : Int}, t.Bt lo hi ↔ Srt t.keys lo hi
  | lf, lo, hi => Iff.rfl
  | nd l k r, lo, hi => by
    show (lo ≤ k ∧ k ≤ hi ∧ l.Bt lo (k - 1) ∧ r.Bt (k + 1) hi) ↔ Srt (l.keys ++ k :: r.keys) lo hi
    rw [srt_app, bt_srt (t := l), bt_srt (t := r)]
    constructor
    · rintro ⟨a, b, c, d⟩
      exact ⟨c, a, b, d⟩
    · rintro ⟨c, a, b, d⟩
      exact ⟨a, b, c, d⟩
theorem srt_mem : ∀ {xs : List Int} {lo hi k : Int}, Srt xs lo hi → k ∈ xs → lo ≤ k ∧ k ≤ hi
  | [], _, _, _, _, h => nomatch h
  | x :: xs, lo, hi, k, ⟨h1, h2, h3⟩, h => by
    rcases List.mem_cons.mp h with e | h
    · subst e
      exact ⟨h1, h2⟩
    · have := srt_mem h3 h
      omega
theorem srt_len : ∀ {xs : List Int} {lo hi : Int}, Srt xs lo hi → xs.length ≤ (hi - lo + 1).toNat
  | [], _, _, _ => Nat.zero_le _
  | x :: xs, lo, hi, ⟨h1, h2, h3⟩ => by
    have := srt_len h3
    rw [List.length_cons]
    omega
theorem T.Bt.mem {t : T} {lo hi k : Int} (h : t.Bt lo hi) (m : k ∈ t.keys) : lo ≤ k ∧ k ≤ hi := srt_mem (bt_srt.mp h) m
theorem T.Bt.len {t : T} {lo hi : Int} (h : t.Bt lo hi) : t.keys.length ≤ (hi - lo + 1).toNat := srt_len (bt_srt.mp h)
theorem len_nd {l r : T} {k : Int} : (nd l k r).keys.length = l.keys.length + r.keys.length + 1 := by
  show (l.keys ++ k :: r.keys).length = _
  rw [List.length_append, List.length_cons]
  omega
theorem mem_nd {l r : T} {k x : Int} : x ∈ (nd l k r).keys ↔ x ∈ l.keys ∨ x = k ∨ x ∈ r.keys := by
  show x ∈ l.keys ++ k :: r.keys ↔ _
  rw [List.mem_append, List.mem_cons]
theorem ht_le : ∀ t : T, t.ht ≤ t.keys.length
  | lf => Nat.le_refl _
  | nd l k r => by
    have a := ht_le l
    have b := ht_le r
    rw [len_nd]
    show Nat.max l.ht r.ht + 1 ≤ _
    have c : Nat.max l.ht r.ht ≤ l.keys.length + r.keys.length := Nat.max_le.mpr ⟨by omega, by omega⟩
    omega
/-- a shape with keys from 1 to 6 -/
def WT (t : T) : Prop := t.Bt 1 6
theorem WT.lf : WT .lf := trivial
theorem WT.l {l r : T} {k : Int} (h : WT (nd l k r)) : WT l := h.2.2.1.mono (Int.le_refl _) (by have := h.2.1; omega)
theorem WT.r {l r : T} {k : Int} (h : WT (nd l k r)) : WT r := h.2.2.2.mono (by have := h.1; omega) (Int.le_refl _)
theorem WT.k {l r : T} {k : Int} (h : WT (nd l k r)) : 1 ≤ k ∧ k ≤ 6 := ⟨h.1, h.2.1⟩
theorem WT.ltl {l r : T} {k x : Int} (h : WT (nd l k r)) (m : x ∈ l.keys) : x < k := by
  have := (h.2.2.1.mem m).2
  omega
theorem WT.ltr {l r : T} {k x : Int} (h : WT (nd l k r)) (m : x ∈ r.keys) : k < x := by
  have := (h.2.2.2.mem m).1
  omega
theorem WT.len {t : T} (h : WT t) : t.keys.length ≤ 6 := by
  have := T.Bt.len h
  omega
theorem WT.ht {t : T} (h : WT t) : t.ht ≤ 6 := Nat.le_trans (ht_le t) h.len
theorem ht_l {l r : T} {k : Int} : l.ht < (nd l k r).ht := by
  show l.ht < Nat.max l.ht r.ht + 1
  have := Nat.le_max_left l.ht r.ht
  exact Nat.lt_succ_of_le this
theorem ht_r {l r : T} {k : Int} : r.ht < (nd l k r).ht := by
  show r.ht < Nat.max l.ht r.ht + 1
  have := Nat.le_max_right l.ht r.ht
  exact Nat.lt_succ_of_le this
theorem WT.inl {l r : T} {k x : Int} (h : WT (nd l k r)) (m : x ∈ (nd l k r).keys) (c : x < k) : x ∈ l.keys := by
  rcases mem_nd.mp m with m | e | m
  · exact m
  · omega
  · have := h.ltr m
    omega
theorem WT.inr {l r : T} {k x : Int} (h : WT (nd l k r)) (m : x ∈ (nd l k r).keys) (c : k < x) : x ∈ r.keys := by
  rcases mem_nd.mp m with m | e | m
  · have := h.ltl m
    omega
  · omega
  · exact m
/-! ### rotations -/
def lup : T → T
  | nd (nd a y b) x r => nd a y (nd b x r)
  | t => t
def rup : T → T
  | nd l x (nd a y b) => nd (nd l x a) y b
  | t => t
theorem keys_lup (t : T) : (lup t).keys = t.keys := by
  match t with
  | .lf => rfl
  | nd .lf x r => rfl
  | nd (nd a y b) x r =>
    show a.keys ++ (y :: (b.keys ++ (x :: r.keys))) = (a.keys ++ (y :: b.keys)) ++ (x :: r.keys)
    simp
theorem keys_rup (t : T) : (rup t).keys = t.keys := by
  match t with
  | .lf => rfl
  | nd l x .lf => rfl
  | nd l x (nd a y b) =>
    show (l.keys ++ (x :: a.keys)) ++ (y :: b.keys) = l.keys ++ (x :: (a.keys ++ (y :: b.keys)))
    simp
def turn : T → Int → T
  | .lf, _ => .lf
  | nd l x r, k => if k < x then (if tk l = k then lup (nd l x r) else nd (turn l k) x r) else (if tk r = k then rup (nd l x r) else nd l x (turn r k))
theorem keys_turn : ∀ (t : T) (k : Int), (turn t k).keys = t.keys
  | .lf, _ => rfl
  | nd l x r, k => by
    unfold turn
    split
    · split
      · exact keys_lup _
      · show (turn l k).keys ++ _ = l.keys ++ _
        rw [keys_turn l k]
    · split
      · exact keys_rup _
      · show l.keys ++ (x :: (turn r k).keys) = l.keys ++ (x :: r.keys)
        rw [keys_turn r k]
theorem WT.turn {t : T} (h : WT t) (k : Int) : WT (turn t k) := by
  have := bt_srt.mp h
  rw [← keys_turn t k] at this
  exact bt_srt.mpr this
/-- the number of keys above a key -/
def dep : T → Int → Nat
  | .lf, _ => 0
  | nd l x r, k => if x = k then 0 else if k < x then dep l k + 1 else dep r k + 1
theorem dep_top {t : T} {k : Int} (h : tk t = k) : dep t k = 0 := by
  cases t with
  | lf => rfl
  | nd l x r =>
    have e : x = k := h
    unfold dep
    rw [if_pos e]
theorem dep_turn : ∀ {t : T} {k : Int}, WT t → k ∈ t.keys → tk t ≠ k → dep (turn t k) k + 1 = dep t k
  | .lf, _, _, h, _ => nomatch h
  | nd l x r, k, h, m, ne => by
    have ne : x ≠ k := ne
    by_cases c : k < x
    · have ml := h.inl m c
      have e1 : dep (nd l x r) k = dep l k + 1 := by
        show (if x = k then 0 else if k < x then dep l k + 1 else dep r k + 1) = _
        rw [if_neg ne, if_pos c]
      by_cases d : tk l = k
      · cases l with
        | lf => cases ml
        | nd a y b =>
          have e2 : turn (nd (nd a y b) x r) k = nd a y (nd b x r) := by
            unfold turn
            rw [if_pos c, if_pos d]
            rfl
          rw [e1, e2, dep_top (t := nd a y (nd b x r)) d, dep_top (t := nd a y b) d]
      · have e2 : turn (nd l x r) k = nd (turn l k) x r := by
          show (if k < x then (if tk l = k then lup (nd l x r) else nd (turn l k) x r) else _) = _
          rw [if_pos c, if_neg d]
        have ih := dep_turn h.l ml d
        rw [e1, e2]
        show (if x = k then 0 else if k < x then dep (turn l k) k + 1 else dep r k + 1) + 1 = _
        rw [if_neg ne, if_pos c, ih]
    · have c' : x < k := by omega
      have mr := h.inr m c'
      have e1 : dep (nd l x r) k = dep r k + 1 := by
        show (if x = k then 0 else if k < x then dep l k + 1 else dep r k + 1) = _
        rw [if_neg ne, if_neg c]
      by_cases d : tk r = k
      · cases r with
        | lf => cases mr
        | nd a y b =>
          have e2 : turn (nd l x (nd a y b)) k = nd (nd l x a) y b := by
            unfold turn
            rw [if_neg c, if_pos d]
            rfl
          rw [e1, e2, dep_top (t := nd (nd l x a) y b) d, dep_top (t := nd a y b) d]
      · have e2 : turn (nd l x r) k = nd l x (turn r k) := by
          show (if k < x then _ else (if tk r = k then rup (nd l x r) else nd l x (turn r k))) = _
          rw [if_neg c, if_neg d]
        have ih := dep_turn h.r mr d
        rw [e1, e2]
        show (if x = k then 0 else if k < x then dep l k + 1 else dep (turn r k) k + 1) + 1 = _
        rw [if_neg ne, if_neg c, ih]
def topN : Nat → T → Int → T
  | 0, t, _ => t
  | n + 1, t, k => topN n (turn t k) k
def toTop (t : T) (k : Int) : T := topN (dep t k) t k
theorem toTop_top {t : T} {k : Int} (h : tk t = k) : toTop t k = t := by
  unfold toTop
  rw [dep_top h]
  rfl
theorem toTop_turn {t : T} {k : Int} (h : WT t) (m : k ∈ t.keys) (ne : tk t ≠ k) : toTop (turn t k) k = toTop t k := by
  unfold toTop
  rw [← dep_turn h m ne]
  rfl
theorem keys_topN : ∀ (n : Nat) (t : T) (k : Int), (topN n t k).keys = t.keys
  | 0, _, _ => rfl
  | n + 1, t, k => by
    show (topN n (turn t k) k).keys = _
    rw [keys_topN n, keys_turn]
theorem keys_toTop (t : T) (k : Int) : (toTop t k).keys = t.keys := keys_topN _ _ _
theorem WT.of_keys {t u : T} (h : WT t) (e : u.keys = t.keys) : WT u := by
  have := bt_srt.mp h
  rw [← e] at this
  exact bt_srt.mpr this
/-! ### a new leaf -/
def wleaf : T → Int → T
  | .lf, k => nd .lf k .lf
  | nd l x r, k => if k < x then nd (wleaf l k) x r else nd l x (wleaf r k)
theorem wleaf_bt : ∀ {t : T} {lo hi k : Int}, t.Bt lo hi → lo ≤ k → k ≤ hi → k ∉ t.keys → (wleaf t k).Bt lo hi
  | .lf, lo, hi, k, _, a, b, _ => ⟨a, b, trivial, trivial⟩
  | nd l x r, lo, hi, k, ⟨h1, h2, h3, h4⟩, a, b, m => by
    have ml : k ∉ l.keys := fun q => m (mem_nd.mpr (.inl q))
    have mr : k ∉ r.keys := fun q => m (mem_nd.mpr (.inr (.inr q)))
    have mx : k ≠ x := fun q => m (mem_nd.mpr (.inr (.inl q)))
    unfold wleaf
    split
    · exact ⟨h1, h2, wleaf_bt h3 a (by omega) ml, h4⟩
    · exact ⟨h1, h2, h3, wleaf_bt h4 (by omega) b mr⟩
theorem wleaf_len : ∀ (t : T) (k : Int), (wleaf t k).keys.length = t.keys.length + 1
  | .lf, _ => rfl
  | nd l x r, k => by
    unfold wleaf
    split
    · rw [len_nd, len_nd, wleaf_len l k]
      omega
    · rw [len_nd, len_nd, wleaf_len r k]
      omega
theorem wleaf_mem : ∀ (t : T) (k : Int), k ∈ (wleaf t k).keys
  | .lf, k => List.mem_singleton.mpr rfl
  | nd l x r, k => by
    unfold wleaf
    split
    · exact mem_nd.mpr (.inl (wleaf_mem l k))
    · exact mem_nd.mpr (.inr (.inr (wleaf_mem r k)))
theorem WT.wleaf {t : T} {k : Int} (h : WT t) (a : 1 ≤ k) (b : k ≤ 6) (m : k ∉ t.keys) : WT (wleaf t k) := wleaf_bt h a b m
/-! ### a shape out of keys hung on one after the other -/
inductive Plants : List Int → T → Prop
  | nil : Plants [] .lf
  | cons {x : Int} {xs : List Int} {l r : T} : Plants ((x :: xs).filter fun k => decide (k < x)) l → Plants ((x :: xs).filter fun k => decide (x < k)) r → Plants (x :: xs) (nd l x r)
def order : T → List Int
  | .lf => []
  | nd l x r => x :: (order l ++ order r)
theorem mem_order : ∀ {t : T} {k : Int}, k ∈ order t ↔ k ∈ t.keys
  | .lf, _ => Iff.rfl
  | nd l x r, k => by
    show k ∈ x :: (order l ++ order r) ↔ _
    rw [mem_nd, List.mem_cons, List.mem_append, mem_order (t := l), mem_order (t := r)]
    constructor
    · rintro (h | h | h)
      · exact .inr (.inl h)
      · exact .inl h
      · exact .inr (.inr h)
    · rintro (h | h | h)
      · exact .inr (.inl h)
      · exact .inl h
      · exact .inr (.inr h)
theorem order_len : ∀ t : T, (order t).length = t.keys.length
  | .lf => rfl
  | nd l x r => by
    show (x :: (order l ++ order r)).length = _
    rw [len_nd, List.length_cons, List.length_append, order_len l, order_len r]
theorem filt_all {p : Int → Bool} {xs : List Int} (h : ∀ x ∈ xs, p x = true) : xs.filter p = xs := List.filter_eq_self.mpr h
theorem filt_none {p : Int → Bool} {xs : List Int} (h : ∀ x ∈ xs, p x = false) : xs.filter p = [] := List.filter_eq_nil_iff.mpr fun x m => by rw [h x m]; decide
theorem filt_lo {l r : T} {x : Int} (h : WT (nd l x r)) (zs : List Int) : ((x :: (order l ++ order r)) ++ zs).filter (fun k => decide (k < x)) = order l ++ zs.filter (fun k => decide (k < x)) := by
  rw [List.filter_append, List.filter_cons_of_neg (by simp), List.filter_append, filt_all (xs := order l) fun y m => decide_eq_true (h.ltl (mem_order.mp m)), filt_none (xs := order r) fun y m => decide_eq_false (by have := h.ltr (mem_order.mp m); omega), List.append_nil]
theorem filt_hi {l r : T} {x : Int} (h : WT (nd l x r)) (zs : List Int) : ((x :: (order l ++ order r)) ++ zs).filter (fun k => decide (x < k)) = order r ++ zs.filter (fun k => decide (x < k)) := by
  rw [List.filter_append, List.filter_cons_of_neg (by simp), List.filter_append, filt_none (xs := order l) fun y m => decide_eq_false (by have := h.ltl (mem_order.mp m); omega), filt_all (xs := order r) fun y m => decide_eq_true (h.ltr (mem_order.mp m)), List.nil_append]
theorem plants_order : ∀ {t : T}, WT t → Plants (order t) t
  | .lf, _ => .nil
  | nd l x r, h => by
    have a := filt_lo h []
    have b := filt_hi h []
    rw [List.append_nil, List.filter_nil, List.append_nil] at a b
    refine .cons (xs := order l ++ order r) ?_ ?_
    · rw [a]
      exact plants_order h.l
    · rw [b]
      exact plants_order h.r
theorem plants_leaf : ∀ {t : T} {k : Int}, WT t → k ∉ t.keys → Plants (order t ++ [k]) (wleaf t k)
  | .lf, k, _, _ => by
    have n1 : [k].filter (fun y => decide (y < k)) = [] := filt_none fun y m => decide_eq_false (by rw [List.mem_singleton.mp m]; omega)
    have n2 : [k].filter (fun y => decide (k < y)) = [] := filt_none fun y m => decide_eq_false (by rw [List.mem_singleton.mp m]; omega)
    refine Plants.cons (xs := []) ?_ ?_
    · rw [n1]
      exact .nil
    · rw [n2]
      exact .nil
  | nd l x r, k, h, m => by
    have ml : k ∉ l.keys := fun q => m (mem_nd.mpr (.inl q))
    have mr : k ∉ r.keys := fun q => m (mem_nd.mpr (.inr (.inr q)))
    have mx : k ≠ x := fun q => m (mem_nd.mpr (.inr (.inl q)))
    have a := filt_lo h [k]
    have b := filt_hi h [k]
    unfold wleaf
    by_cases c : k < x
    · rw [if_pos c]
      rw [List.filter_cons_of_pos (by simpa using c), List.filter_nil] at a
      rw [List.filter_cons_of_neg (by simp; omega), List.filter_nil, List.append_nil] at b
      refine Plants.cons (xs := (order l ++ order r) ++ [k]) ?_ ?_
      · show Plants (((x :: (order l ++ order r)) ++ [k]).filter _) _
        rw [a]
        exact plants_leaf h.l ml
      · show Plants (((x :: (order l ++ order r)) ++ [k]).filter _) _
        rw [b]
        exact plants_order h.r
    · rw [if_neg c]
      have c' : x < k := by omega
      rw [List.filter_cons_of_neg (by simp; omega), List.filter_nil, List.append_nil] at a
      rw [List.filter_cons_of_pos (by simpa using c'), List.filter_nil] at b
      refine Plants.cons (xs := (order l ++ order r) ++ [k]) ?_ ?_
      · show Plants (((x :: (order l ++ order r)) ++ [k]).filter _) _
        rw [a]
        exact plants_order h.l
      · show Plants (((x :: (order l ++ order r)) ++ [k]).filter _) _
        rw [b]
        exact plants_leaf h.r mr
/-! ### a key taken out -/
def least : T → Int
  | .lf => 0
  | nd l x _ => if l.isLf then x else least l
def wout : T → Int → T
  | .lf, _ => .lf
  | nd l x r, k => if k < x then nd (wout l k) x r else if x < k then nd l x (wout r k) else if r.isLf then l else if l.isLf then r else nd l (least r) (wout r (least r))
theorem isLf_eq {t : T} (h : t.isLf = true) : t = .lf := by
  cases t with
  | lf => rfl
  | nd l k r => cases h
theorem wout_least : ∀ {r : T} {lo hi : Int}, r.Bt lo hi → r.isLf = false → lo ≤ least r ∧ least r ≤ hi ∧ (wout r (least r)).Bt (least r + 1) hi
  | .lf, _, _, _, h => nomatch h
  | nd a y b, lo, hi, ⟨h1, h2, h3, h4⟩, _ => by
    by_cases c : a.isLf = true
    · have e : least (nd a y b) = y := if_pos c
      have e2 : (wout (nd a y b) y).Bt (y + 1) hi := by
        unfold wout
        rw [if_neg (Int.lt_irrefl y), if_neg (Int.lt_irrefl y), if_pos c, isLf_eq c]
        split
        · trivial
        · exact h4
      rw [e]
      exact ⟨h1, h2, e2⟩
    · have e : least (nd a y b) = least a := if_neg c
      obtain ⟨i1, i2, i3⟩ := wout_least h3 (by simpa using c)
      have e2 : wout (nd a y b) (least a) = nd (wout a (least a)) y b := by
        show (if least a < y then _ else _) = _
        rw [if_pos (by omega)]
      rw [e, e2]
      exact ⟨i1, by omega, by omega, h2, i3, h4⟩
theorem least_mem : ∀ {r : T}, r.isLf = false → least r ∈ r.keys
  | .lf, h => nomatch h
  | nd a y b, _ => by
    by_cases c : a.isLf = true
    · have e : least (nd a y b) = y := if_pos c
      rw [e]
      exact mem_nd.mpr (.inr (.inl rfl))
    · have e : least (nd a y b) = least a := if_neg c
      rw [e]
      exact mem_nd.mpr (.inl (least_mem (by simpa using c)))
theorem least_head : ∀ {r : T}, r.isLf = false → ∃ xs, r.keys = least r :: xs
  | .lf, h => nomatch h
  | nd a y b, _ => by
    by_cases c : a.isLf = true
    · have e : least (nd a y b) = y := if_pos c
      rw [e]
      refine ⟨b.keys, ?_⟩
      show a.keys ++ (y :: b.keys) = _
      rw [isLf_eq c]
      rfl
    · have e : least (nd a y b) = least a := if_neg c
      obtain ⟨xs, hx⟩ := least_head (r := a) (by simpa using c)
      rw [e]
      refine ⟨xs ++ (y :: b.keys), ?_⟩
      show a.keys ++ (y :: b.keys) = _
      rw [hx]
      rfl
theorem wout_bt : ∀ {t : T} {lo hi : Int} (k : Int), t.Bt lo hi → (wout t k).Bt lo hi
  | .lf, _, _, _, _ => trivial
  | nd l x r, lo, hi, k, ⟨h1, h2, h3, h4⟩ => by
    unfold wout
    split
    · exact ⟨h1, h2, wout_bt k h3, h4⟩
    · split
      · exact ⟨h1, h2, h3, wout_bt k h4⟩
      · split
        · exact h3.mono (Int.le_refl _) (by omega)
        · split
          · exact h4.mono (by omega) (Int.le_refl _)
          · rename_i c1 c2
            obtain ⟨i1, i2, i3⟩ := wout_least h4 (by simpa using c1)
            exact ⟨by omega, i2, h3.mono (Int.le_refl _) (by omega), i3⟩
theorem wout_len : ∀ (t : T) (k : Int), (wout t k).keys.length ≤ t.keys.length
  | .lf, _ => Nat.le_refl _
  | nd l x r, k => by
    have a := wout_len l k
    have b := wout_len r k
    have c := wout_len r (least r)
    unfold wout
    split
    · rw [len_nd, len_nd]
      omega
    · split
      · rw [len_nd, len_nd]
        omega
      · split
        · rw [len_nd]
          omega
        · split
          · rw [len_nd]
            omega
          · rw [len_nd, len_nd]
            omega
theorem WT.wout {t : T} (h : WT t) (k : Int) : WT (wout t k) := wout_bt k h
/-! ### the part of a key, another part in its place -/
def part : T → Int → T
  | .lf, _ => .lf
  | nd l x r, k => if x = k then nd l x r else if k < x then part l k else part r k
def put : T → Int → T → T
  | .lf, _, p => p
  | nd l x r, k, p => if x = k then p else if k < x then nd (put l k p) x r else nd l x (put r k p)
def rep : T → T
  | .lf => .lf
  | nd l _ r => if r.isLf then l else if l.isLf then r else nd l (least r) (wout r (least r))
theorem part_nd : ∀ {t : T} {k : Int}, WT t → k ∈ t.keys → ∃ l r, part t k = nd l k r ∧ WT (nd l k r) ∧ (nd l k r).ht ≤ t.ht
  | .lf, _, _, h => nomatch h
  | nd l x r, k, h, m => by
    by_cases e : x = k
    · subst e
      exact ⟨l, r, if_pos rfl, h, Nat.le_refl _⟩
    · by_cases c : k < x
      · obtain ⟨a, b, q, w, z⟩ := part_nd h.l (h.inl m c)
        refine ⟨a, b, ?_, w, Nat.le_trans z (Nat.le_of_lt ht_l)⟩
        show (if x = k then _ else if k < x then part l k else part r k) = _
        rw [if_neg e, if_pos c, q]
      · obtain ⟨a, b, q, w, z⟩ := part_nd h.r (h.inr m (by omega))
        refine ⟨a, b, ?_, w, Nat.le_trans z (Nat.le_of_lt ht_r)⟩
        show (if x = k then _ else if k < x then part l k else part r k) = _
        rw [if_neg e, if_neg c, q]
theorem put_rep : ∀ {t : T} {k : Int}, WT t → k ∈ t.keys → put t k (rep (part t k)) = wout t k
  | .lf, _, _, h => nomatch h
  | nd l x r, k, h, m => by
    by_cases e : x = k
    · subst e
      have e1 : part (nd l x r) x = nd l x r := if_pos rfl
      rw [e1]
      have e2 : put (nd l x r) x (rep (nd l x r)) = rep (nd l x r) := if_pos rfl
      rw [e2]
      show rep (nd l x r) = (if x < x then nd (wout l x) x r else if x < x then nd l x (wout r x) else rep (nd l x r))
      rw [if_neg (Int.lt_irrefl x), if_neg (Int.lt_irrefl x)]
    · by_cases c : k < x
      · have ih := put_rep h.l (h.inl m c)
        have e1 : part (nd l x r) k = part l k := by
          show (if x = k then _ else if k < x then part l k else part r k) = _
          rw [if_neg e, if_pos c]
        rw [e1]
        show (if x = k then _ else if k < x then nd (put l k (rep (part l k))) x r else _) = (if k < x then nd (wout l k) x r else _)
        rw [if_neg e, if_pos c, if_pos c, ih]
      · have c' : x < k := by omega
        have ih := put_rep h.r (h.inr m c')
        have e1 : part (nd l x r) k = part r k := by
          show (if x = k then _ else if k < x then part l k else part r k) = _
          rw [if_neg e, if_neg c]
        rw [e1]
        show (if x = k then _ else if k < x then _ else nd l x (put r k (rep (part r k)))) = (if k < x then _ else if x < k then nd l x (wout r k) else _)
        rw [if_neg e, if_neg c, if_neg c, if_pos c', ih]
end Tt

/-! TtBase -/
namespace Tt
open PySem PySem.Spec PyProof.Rows L2
open T (nd lf)
/-! ### the text by places -/
def top (i : Nat) : Stmt := PySem.Challenge.pw_turnedtrees_k06_whole_plain.main.body.getD i (.Pass ⟨0, 0, 0, 0⟩)
/-! ### a def of the top as it stands, and a def with its promise -/
structure Def (K : PySem.W.Frag) (mg : Str → Option Value) (i : Nat) (x : Str) (ps : List Str) : Prop where
  ex : ∃ (f : Addr) (fd : FuncData), FunD K x x (defArgs (top i)) (defBody (top i)) (defScope (top i)) [] [] f fd ∧ mg x = some (.ref f) ∧ Binds K fd ps []
structure Cal (P : Program) (w : World) (K : PySem.W.Frag) (mg : Str → Option Value) (base : Heap) (x : Str) (ps : List Str) (k : Nat) (sp : Sp) : Prop where
  ex : ∃ (f : Addr) (fd : FuncData), FnOk P w K mg base CX0 k f fd ps sp ∧ mg x = some (.ref f) ∧ PySem.W.keepIn K (.ref f) = true ∧ Binds K fd ps []
section
variable {P : Program} {w : World} {K : PySem.W.Frag} {mg : Str → Option Value} {base : Heap} {i : Nat} {x : Str} {ps N : List Str} {k : Nat} {sp : Sp}
theorem Def.cal (D : Def K mg i x ps) (S : FnScope N ps (defScope (top i))) (len : ∀ vs H Q E, sp vs H Q E → vs.length = ps.length)
    (hbody : ∀ (f : Addr) (cdv : Value) (A : Around) (outer : List Env) (s : Shared) (H : Hp) (vs : List V) (Q : VK) (E : XK), Room k (A.deeper (envOfC x (defScope (top i)) s.heap.objs.size f cdv)) → sp vs H Q E →
      ∃ t, PSs (cxOf CX0 P w K mg base N x (defScope (top i)) f cdv A outer s H E).nox (defBody (top i)) t ∧ t { nx := fun _ H' => Q .non H', rt := Q } (start N vs) H) : Cal P w K mg base x ps (k + 1) sp := by
  obtain ⟨f, fd, F, hm, hb⟩ := D.ex
  refine ⟨f, fd, F.ok S len fun cdv A outer s H vs Q E hr h => ?_, hm, F.kp, hb⟩
  obtain ⟨t, h1, h2⟩ := hbody f cdv A outer s H vs Q E hr h
  exact ⟨t, h1.nox, h2⟩
theorem Def.zero (D : Def K mg i x ps) (no : ∀ vs H Q E, ¬ sp vs H Q E) : Cal P w K mg base x ps 0 sp := by
  obtain ⟨f, fd, F, hm, hb⟩ := D.ex
  exact ⟨f, fd, ⟨fun vs H Q E h => absurd h (no vs H Q E), fun A outer s H args us vs Q E _ _ _ _ h => absurd h (no vs H Q E)⟩, hm, F.kp, hb⟩
theorem Cal.imp {sp' : Sp} (C : Cal P w K mg base x ps k sp) (h : ∀ vs H Q E, sp' vs H Q E → sp vs H Q E) : Cal P w K mg base x ps k sp' := by
  obtain ⟨f, fd, F, r⟩ := C.ex
  exact ⟨f, fd, F.imp h, r⟩
end
section
variable {X : Cx} {x : Str} {ps : List Str} {j k : Nat} {sp : Sp} {p pos : Pos} {e : Expr} {es : List Expr} {t : TA}
theorem pe_cal (C : Cal X.prog X.w X.K X.mg X.base x ps j sp) (hr : Room k X.A) (ha : PA X (e :: es) t) (hj : j ≤ k := by first | omega | decide) (hg : Gl X x := by rfl) (hdb : (x == ("__debug__" : Str)) = false := by decide)
    (he : starEach (e :: es) X.env = (false, eval e X.env) :: starEach es X.env := by rfl) (hpl : (backTo pos (starEach es X.env)).any (·.1) = false := by rfl) : PE X (.Call (.Name x p) (e :: es) [] pos) (tCall sp [] E0 t) := by
  obtain ⟨f, fd, F, hm, hk, hb⟩ := C.ex
  exact pe_call F (hr.mono hj) hg hm hk hb .nil pass0 ha hdb he hpl
/-- an expression that is never reached -/
def tNo : TE := fun _ _ _ => False
theorem pe_no : PE X e tNo := ⟨fun _ _ _ _ _ _ h => h.elim⟩
theorem PT_imp {t t' : TT} (h : PT X e t) (i : ∀ σ H Q, t' σ H Q → t σ H Q) : PT X e t' := ⟨fun pins s σ H Q I q => h.run pins s σ H Q I (i _ _ _ q)⟩
theorem PE_imp {t t' : TE} (h : PE X e t) (i : ∀ σ H Q, t' σ H Q → t σ H Q) : PE X e t' := ⟨fun pins s σ H Q I q => h.run pins s σ H Q I (i _ _ _ q)⟩
end
/-! ### heaps -/
theorem same_new {H : Hp} {p : Addr} (h : H p = none) (o : HO) : Same H (upd H p o) := fun b u q => by rw [upd_ne (ne_of_none q h)]; exact q
/-- tuples stay -/
def TupK (H H' : Hp) : Prop := ∀ b xs, H b = some (.tup xs) → H' b = some (.tup xs)
theorem tkS {H H' : Hp} (h : Same H H') : TupK H H' := fun b xs e => h b _ e
theorem TupK.trans {H H1 H2 : Hp} (a : TupK H H1) (b : TupK H1 H2) : TupK H H2 := fun c xs e => b c xs (a c xs e)
/-! ### how the heap bears a tree -/
def TreeAt (H : Hp) : V → T → Prop
  | v, .lf => ∃ a, v = .ref a ∧ H a = some (.tup [])
  | v, .nd l k r => ∃ a x y, v = .ref a ∧ H a = some (.tup [x, .int k, y]) ∧ TreeAt H x l ∧ TreeAt H y r
theorem TreeAt.mono {H H' : Hp} (h : TupK H H') : ∀ {t : T} {v : V}, TreeAt H v t → TreeAt H' v t
  | .lf, _, ⟨a, e, q⟩ => ⟨a, e, h _ _ q⟩
  | .nd l k r, _, ⟨a, x, y, e, q, q1, q2⟩ => ⟨a, x, y, e, h _ _ q, q1.mono h, q2.mono h⟩
def pd : T → PyData
  | .lf => .tuple []
  | .nd l k r => .tuple [pd l, .int k, pd r]
theorem TreeAt.dp {K : PySem.W.Frag} {H : Hp} : ∀ {t : T} {v : V}, TreeAt H v t → Dp K H v (pd t)
  | .lf, _, ⟨a, e, q⟩ => by
    subst e
    exact .tup (SqT.of q) .nil
  | .nd l k r, _, ⟨a, x, y, e, q, q1, q2⟩ => by
    subst e
    exact .tup (SqT.of q) (.cons q1.dp (.cons (.int k) (.cons q2.dp .nil)))
theorem pd_lay : ∀ t : T, (pd t).canLay0 = true
  | .lf => rfl
  | .nd l k r => by
    have a := pd_lay l
    have b := pd_lay r
    show (PyData.canLay0 (.tuple [pd l, .int k, pd r])) = true
    simp [PyData.canLay0, PyData.canLayAll0, a, b]
theorem pd_depth : ∀ t : T, (pd t).depth ≤ t.ht + 1
  | .lf => by
    show PyData.depth (.tuple []) ≤ _
    simp [PyData.depth, PyData.depthAll]
  | .nd l k r => by
    have a := pd_depth l
    have b := pd_depth r
    show PyData.depth (.tuple [pd l, .int k, pd r]) ≤ _
    simp only [PyData.depth, PyData.depthAll]
    show _ ≤ (Nat.max l.ht r.ht + 1) + 1
    have e : Nat.max l.ht r.ht = max l.ht r.ht := rfl
    rw [e]
    omega
theorem pd_shaped {t : T} (h : WT t) : SeqAt.shaped (pd t) = true := by
  have a := pd_depth t
  have b := h.ht
  exact Bool.and_eq_true_iff.mpr ⟨pd_lay t, decide_eq_true (by omega)⟩
theorem pd_self : ∀ t : T, PyData.eqv (pd t) (pd t) = true
  | .lf => by
    show PyData.eqv (.tuple []) (.tuple []) = true
    simp [PyData.eqv, PyData.eqvAll]
  | .nd l k r => by
    have a := pd_self l
    have b := pd_self r
    show PyData.eqv (.tuple [pd l, .int k, pd r]) (.tuple [pd l, .int k, pd r]) = true
    simp [PyData.eqv, PyData.eqvAll, a, b]
theorem pd_lf : ∀ t : T, PyData.eqv (pd t) (pd .lf) = t.isLf
  | .lf => pd_self .lf
  | .nd l k r => by
    show PyData.eqv (.tuple [pd l, .int k, pd r]) (.tuple []) = false
    simp [PyData.eqv, PyData.eqvAll]
/-! ### the module's names -/
structure Txt (mg : Str → Option Value) : Prop where
  isi : mg "isinstance" = none
  int : mg "int" = none
  bool : mg "bool" = none
  tuple : mg "tuple" = none
  len : mg "len" = none
  str : mg "str" = none
  range : mg "range" = none
  most : ∃ t, mg "MOST" = some (.int 6 t)
/-! ### shape == (), shape != () -/
section
variable {X : Cx} {e : Expr} {es : List Expr} {x1 : Nat} {pos : Pos}
/-- () -/
def tUnit : TE := fun _ H Q => ∀ v H', Same H H' → TreeAt H' v .lf → Q v H'
theorem pe_unit : PE X (.Tuple [] x1 pos) tUnit := PE_imp (pe_tup pa_nil) fun σ H Q q => ⟨Nat.zero_le _, fun p hp => q _ _ (same_new hp _) ⟨p, rfl, upd_same⟩⟩
def rEqLf : R2 := fun x y H Q => ∃ t, TreeAt H x t ∧ WT t ∧ TreeAt H y .lf ∧ Q (.bl t.isLf) H
def rNeLf : R2 := fun x y H Q => ∃ t, TreeAt H x t ∧ WT t ∧ TreeAt H y .lf ∧ Q (.bl (!t.isLf)) H
theorem op_eqLf (hu : X.A.units + 64 < cLine) : OpR X (compareOp .Eq) rEqLf := by
  intro pins s σ H x y v u Q I rx ry h
  obtain ⟨t, h1, h2, h3, q⟩ := h
  exact op_eqD hu pins s σ H x y v u Q I rx ry ⟨pd t, pd .lf, h1.dp, h3.dp, pd_shaped h2, pd_shaped WT.lf, by rw [pd_lf]; exact q⟩
theorem op_neLf (hu : X.A.units + 64 < cLine) : OpR X (compareOp .NotEq) rNeLf := by
  intro pins s σ H x y v u Q I rx ry h
  obtain ⟨t, h1, h2, h3, q⟩ := h
  exact op_neD hu pins s σ H x y v u Q I rx ry ⟨pd t, pd .lf, h1.dp, h3.dp, pd_shaped h2, pd_shaped WT.lf, by rw [pd_lf]; exact q⟩
/-- two trees that are one -/
def rNeSame : R2 := fun x y H Q => ∃ t, TreeAt H x t ∧ WT t ∧ TreeAt H y t ∧ Q (.bl false) H
theorem op_neSame (hu : X.A.units + 64 < cLine) : OpR X (compareOp .NotEq) rNeSame := by
  intro pins s σ H x y v u Q I rx ry h
  obtain ⟨t, h1, h2, h3, q⟩ := h
  exact op_neD hu pins s σ H x y v u Q I rx ry ⟨pd t, pd t, h1.dp, h3.dp, pd_shaped h2, pd_shaped h2, by rw [pd_self]; exact q⟩
end
theorem Cal.up {P : Program} {w : World} {K : PySem.W.Frag} {mg : Str → Option Value} {base : Heap} {x : Str} {ps : List Str} {j k : Nat} {sp : Sp} (C : Cal P w K mg base x ps j sp) (h : j ≤ k) : Cal P w K mg base x ps k sp := by
  obtain ⟨f, fd, F, r⟩ := C.ex
  exact ⟨f, fd, F.mono h, r⟩
/-- a new node -/
theorem tree_new {H : Hp} {x y : V} {l r : T} {k : Int} {p : Addr} (hp : H p = none) (h1 : TreeAt H x l) (h2 : TreeAt H y r) : TreeAt (upd H p (.tup [x, .int k, y])) (.ref p) (nd l k r) :=
  ⟨p, x, y, rfl, upd_same, h1.mono (tkS (same_new hp _)), h2.mono (tkS (same_new hp _))⟩
theorem int_inj {i j : Int} (h : decide (V.int i = V.int j) = true) : i = j := V.int.inj (of_decide_eq_true h)
theorem int_ne {i j : Int} (h : ¬ decide (V.int i = V.int j) = true) : i ≠ j := fun e => h (decide_eq_true (congrArg V.int e))
theorem small3 : 3 ≤ sizeLine := by decide
theorem small2 : 2 ≤ sizeLine := by decide
theorem small1 : 1 ≤ sizeLine := by decide
theorem line_of {n : Nat} (h : n ≤ 1000) : n ≤ sizeLine := Nat.le_of_lt (small1000 h)
end Tt

/-! TtP1 -/
namespace Tt
open PySem PySem.Spec PyProof.Rows L2
open T (nd lf)
section
variable {P : Program} {w : World} {K : PySem.W.Frag} {mg : Str → Option Value} {base : Heap}
/-! ### shapes.py -/
def spNumber : Sp := fun vs H Q _ => ∃ v lo hi : Int, vs = [.int v, .int lo, .int hi] ∧ lo ≤ v ∧ v ≤ hi ∧ Q (.bl true) H
theorem sc8 : FnScope ["value", "least", "most"] ["value", "least", "most"] (defScope (top 8)) := ⟨rfl, rfl, rfl, by decide +kernel, rfl, by decide +kernel, by decide +kernel⟩
theorem c_number (D : Def K mg 8 "is_number" ["value", "least", "most"]) (Z : Txt mg) : Cal P w K mg base "is_number" ["value", "least", "most"] 1 spNumber := by
  refine D.cal sc8 (fun vs H Q E h => ?_) (fun f cdv A outer s H vs Q E hr h => ?_)
  · obtain ⟨v, lo, hi, rfl, _⟩ := h
    rfl
  obtain ⟨v, lo, hi, rfl, h1, h2, q⟩ := h
  refine ⟨_, pss_one (ps_ret (pe_and (pe_callB call_isi (by rfl) Z.isi (by decide +kernel) (pa_cons (pv 0) (pa_cons (pe_bltn (v := .ty "int") (by rfl) Z.int (by decide +kernel) rfl) pa_nil)))
    (pe_and (pe_not (pe_callB call_isi (by rfl) Z.isi (by decide +kernel) (pa_cons (pv 0) (pa_cons (pe_bltn (v := .ty "bool") (by rfl) Z.bool (by decide +kernel) rfl) pa_nil)))) (pe_one (pe_chain op_le op_le (pv 1) (pv 0) (pv 2)))))), ?_⟩
  refine ⟨_, rfl, _, _, _, _, true, rfl, .ty _, .base (.int v), kit_ty (by decide +kernel), _, rfl, iteT ?_⟩
  refine ⟨_, rfl, _, _, _, _, false, rfl, .ty _, .base (.int v), kit_ty (by decide +kernel), _, rfl, _, rfl, iteT ?_⟩
  refine ⟨_, rfl, _, rfl, _, _, rfl, rfl, _, rfl, ?_⟩
  rw [decide_eq_true h1]
  refine iteT ⟨_, rfl, _, _, rfl, rfl, ?_⟩
  show Q (.bl (decide (v ≤ hi))) H
  rw [decide_eq_true h2]
  exact q
/-- n calls are allowed: the tree is lower than n -/
def spBetween (n : Nat) : Sp := fun vs H Q _ => ∃ (x : V) (t : T) (lo hi : Int), vs = [x, .int lo, .int hi] ∧ TreeAt H x t ∧ t.Bt lo hi ∧ WT t ∧ t.ht < n ∧ ∀ H', Same H H' → Q (.bl true) H'
theorem sc9 : FnScope ["value", "low", "high"] ["value", "low", "high"] (defScope (top 9)) := ⟨rfl, rfl, rfl, by decide +kernel, rfl, by decide +kernel, by decide +kernel⟩
theorem c_between1 {n : Nat} (D : Def K mg 9 "is_between" ["value", "low", "high"]) (Z : Txt mg) (C : Cal P w K mg base "is_number" ["value", "least", "most"] 1 spNumber)
    (R : Cal P w K mg base "is_between" ["value", "low", "high"] (n + 1) (spBetween n)) : Cal P w K mg base "is_between" ["value", "low", "high"] (n + 2) (spBetween (n + 1)) := by
  refine D.cal sc9 (fun vs H Q E h => ?_) (fun f cdv A outer s H vs Q E hr h => ?_)
  · obtain ⟨x, t, lo, hi, rfl, _⟩ := h
    rfl
  obtain ⟨x, t, lo, hi, rfl, ht, hb, hw, hn, q⟩ := h
  refine ⟨_, pss_cons (ps_if (PW.pt (pw_and (pt_cmpR (op_eqLf hr.units) (pv 0) pe_unit (nomark _)) (pw_and1 (pt_val (pe_callB call_isi (by rfl) Z.isi (by decide +kernel) (pa_cons (pv 0) (pa_cons (pe_bltn (v := .ty "tuple") (by rfl) Z.tuple (by decide +kernel) rfl) pa_nil)))))))
      (pss_one (ps_ret pe_bl)) pss_nil)
    (pss_cons (ps_if (PW.pt (pw_or (pt_not (pt_val (pe_callB call_isi (by rfl) Z.isi (by decide +kernel) (pa_cons (pv 0) (pa_cons (pe_bltn (v := .ty "tuple") (by rfl) Z.tuple (by decide +kernel) rfl) pa_nil)))))
        (pw_or (pt_cmpR op_ne (pe_callB call_len_seq (by rfl) Z.len PySem.boot_len (pa_cons (pv 0) pa_nil)) pe_int (nomark _))
          (pw_or1 (pt_not (pt_val (pe_cal C hr (pa_cons (pe_ix ix_tup (pv 0) pe_int (fun _ _ => rfl)) (pa_cons (pv 1) (pa_cons (pv 2) pa_nil))))))))))
      (pss_one ps_never) pss_nil)
    (pss_one (ps_ret (pe_and (pe_cal R hr (pa_cons (pe_ix ix_tup (pv 0) pe_int (fun _ _ => rfl)) (pa_cons (pv 1) (pa_cons (pe_op op_sub (pe_ix ix_tup (pv 0) pe_int (fun _ _ => rfl)) pe_int) pa_nil))))
      (pe_one (pe_cal R hr (pa_cons (pe_ix ix_tup (pv 0) pe_int (fun _ _ => rfl)) (pa_cons (pe_op op_add (pe_ix ix_tup (pv 0) pe_int (fun _ _ => rfl)) pe_int) (pa_cons (pv 2) pa_nil))))))))), ?_⟩
  refine ⟨_, rfl, fun e H1 s1 he => ⟨t, ht.mono (tkS s1), hw, he, _, rfl, ?_⟩⟩
  cases t with
  | lf =>
    obtain ⟨a, rfl, ha⟩ := ht.mono (tkS s1)
    refine iteT ⟨_, rfl, _, _, _, _, true, rfl, .ty _, .base (.tup ha), kit_ty (by decide +kernel), _, rfl, iteT ?_⟩
    exact q _ s1
  | nd l k r =>
    obtain ⟨a, vl, vr, rfl, ha, hl, hrr⟩ := ht.mono (tkS s1)
    refine iteF (iteF ?_)
    refine ⟨_, rfl, _, _, _, _, true, rfl, .ty _, .base (.tup ha), kit_ty (by decide +kernel), _, rfl, iteF ?_⟩
    refine ⟨_, rfl, a, _, rfl, .inr (SqT.of ha), rfl, _, rfl, iteF ?_⟩
    refine ⟨_, rfl, a, _, _, _, rfl, rfl, SqT.of ha, rfl, _, rfl, _, rfl, k, lo, hi, rfl, hb.1, hb.2.1, _, rfl, iteF ?_⟩
    refine ⟨_, rfl, a, _, _, _, rfl, rfl, SqT.of ha, rfl, _, rfl, _, rfl, a, _, _, _, rfl, rfl, SqT.of ha, rfl, _, _, rfl, rfl, vl, l, lo, k - 1, rfl, hl, hb.2.2.1, hw.l, Nat.lt_of_lt_of_le ht_l (Nat.le_of_lt_succ hn), fun H2 s2 => ⟨_, rfl, iteT ?_⟩⟩
    have ha2 := s2 _ _ ha
    refine ⟨_, rfl, a, _, _, _, rfl, rfl, SqT.of ha2, rfl, _, rfl, a, _, _, _, rfl, rfl, SqT.of ha2, rfl, _, _, rfl, rfl, _, rfl, vr, r, k + 1, hi, rfl, hrr.mono (tkS s2), hb.2.2.2, hw.r, Nat.lt_of_lt_of_le ht_r (Nat.le_of_lt_succ hn), fun H3 s3 => ?_⟩
    exact q _ (s1.trans (s2.trans s3))
theorem c_between (D : Def K mg 9 "is_between" ["value", "low", "high"]) (Z : Txt mg) (C : Cal P w K mg base "is_number" ["value", "least", "most"] 1 spNumber) :
    ∀ n : Nat, Cal P w K mg base "is_between" ["value", "low", "high"] (n + 1) (spBetween n)
  | 0 => (D.zero fun vs H Q E h => by
      obtain ⟨_, _, _, _, _, _, _, _, h, _⟩ := h
      exact absurd h (Nat.not_lt_zero _)).up (Nat.zero_le _)
  | n + 1 => c_between1 D Z C (c_between D Z C n)
/-- what holds of a shape -/
def spShape : Sp := fun vs H Q _ => ∃ (x : V) (t : T), vs = [x] ∧ TreeAt H x t ∧ WT t ∧ ∀ H', Same H H' → Q (.bl true) H'
theorem sc10 : FnScope ["candidate"] ["candidate"] (defScope (top 10)) := ⟨rfl, rfl, rfl, by decide +kernel, rfl, by decide +kernel, by decide +kernel⟩
theorem c_is_shape (D : Def K mg 10 "is_shape" ["candidate"]) (Z : Txt mg) (C : Cal P w K mg base "is_between" ["value", "low", "high"] 8 (spBetween 7)) : Cal P w K mg base "is_shape" ["candidate"] 9 spShape := by
  refine D.cal sc10 (fun vs H Q E h => ?_) (fun f cdv A outer s H vs Q E hr h => ?_)
  · obtain ⟨x, t, rfl, _⟩ := h
    rfl
  obtain ⟨x, t, rfl, ht, hw, q⟩ := h
  obtain ⟨tm, hm⟩ := Z.most
  refine ⟨_, pss_one (ps_ret (pe_cal C hr (pa_cons (pv 0) (pa_cons pe_int (pa_cons (pe_glob (v := .int 6) (by rfl) hm ⟨_, rfl⟩) pa_nil))))), ?_⟩
  exact ⟨_, rfl, x, t, 1, 6, rfl, ht, hw, hw, Nat.lt_succ_of_le hw.ht, q⟩
def spNeedShape : Sp := fun vs H Q _ => ∃ (x : V) (t : T), vs = [x] ∧ TreeAt H x t ∧ WT t ∧ ∀ H', Same H H' → Q .non H'
theorem sc11 : FnScope ["value"] ["value"] (defScope (top 11)) := ⟨rfl, rfl, rfl, by decide +kernel, rfl, by decide +kernel, by decide +kernel⟩
theorem c_need_shape (D : Def K mg 11 "need_shape" ["value"]) (C : Cal P w K mg base "is_shape" ["candidate"] 9 spShape) : Cal P w K mg base "need_shape" ["value"] 10 spNeedShape := by
  refine D.cal sc11 (fun vs H Q E h => ?_) (fun f cdv A outer s H vs Q E hr h => ?_)
  · obtain ⟨x, t, rfl, _⟩ := h
    rfl
  obtain ⟨x, t, rfl, ht, hw, q⟩ := h
  refine ⟨_, pss_one (ps_if (pt_not (pt_val (pe_cal C hr (pa_cons (pv 0) pa_nil)))) (pss_one ps_never) pss_nil), ?_⟩
  exact ⟨_, rfl, x, t, rfl, ht, hw, fun H' s1 => ⟨_, rfl, iteF (q _ s1)⟩⟩
/-- the keys, ascending, in a new list -/
def spKeys (n : Nat) : Sp := fun vs H Q _ => ∃ (x : V) (t : T), vs = [x] ∧ TreeAt H x t ∧ WT t ∧ t.ht < n ∧ ∀ p H', Same H H' → H p = none → H' p = some (.lst (t.keys.map V.int)) → Q (.ref p) H'
theorem sc12 : FnScope ["shape"] ["shape"] (defScope (top 12)) := ⟨rfl, rfl, rfl, by decide +kernel, rfl, by decide +kernel, by decide +kernel⟩
theorem c_keys1 {n : Nat} (D : Def K mg 12 "keys_of" ["shape"]) (R : Cal P w K mg base "keys_of" ["shape"] (n + 1) (spKeys n)) : Cal P w K mg base "keys_of" ["shape"] (n + 2) (spKeys (n + 1)) := by
  refine D.cal sc12 (fun vs H Q E h => ?_) (fun f cdv A outer s H vs Q E hr h => ?_)
  · obtain ⟨x, t, rfl, _⟩ := h
    rfl
  obtain ⟨x, t, rfl, ht, hw, hn, q⟩ := h
  refine ⟨_, pss_one (ps_ret (pe_ifExp (pt_cmpR (op_neLf hr.units) (pv 0) pe_unit (nomark _))
    (pe_op op_cat (pe_op op_cat (pe_cal R hr (pa_cons (pe_ix ix_tup (pv 0) pe_int (fun _ _ => rfl)) pa_nil)) (pe_lst (pa_cons (pe_ix ix_tup (pv 0) pe_int (fun _ _ => rfl)) pa_nil)))
      (pe_cal R hr (pa_cons (pe_ix ix_tup (pv 0) pe_int (fun _ _ => rfl)) pa_nil))) (pe_lst pa_nil))), ?_⟩
  refine ⟨_, rfl, fun e H1 s1 he => ⟨t, ht.mono (tkS s1), hw, he, _, rfl, ?_⟩⟩
  cases t with
  | lf =>
    refine iteF ⟨Nat.zero_le _, fun p hp => ?_⟩
    exact q p _ (s1.trans (same_new hp _)) (s1.free hp) upd_same
  | nd l k r =>
    obtain ⟨a, vl, vr, rfl, ha, hl, hrr⟩ := ht.mono (tkS s1)
    have len := hw.len
    rw [len_nd] at len
    refine iteT ⟨_, rfl, a, _, _, _, rfl, rfl, SqT.of ha, rfl, vl, l, rfl, hl, hw.l, Nat.lt_of_lt_of_le ht_l (Nat.le_of_lt_succ hn), fun p2 H2 s2 _ e2 => ?_⟩
    have ha2 := s2 _ _ ha
    refine ⟨_, rfl, a, _, _, _, rfl, rfl, SqT.of ha2, rfl, small1, fun p3 n3 => ?_⟩
    have s3 : Same H2 (upd H2 p3 (.lst [.int k])) := same_new n3 _
    refine ⟨p2, p3, _, _, rfl, rfl, s3 _ _ e2, upd_same, by rw [List.length_map, List.length_singleton]; exact line_of (by omega), fun p4 n4 => ?_⟩
    have s4 := same_new n4 (.lst (l.keys.map V.int ++ [.int k]))
    have ha4 := s4 _ _ (s3 _ _ ha2)
    have hr4 := hrr.mono ((tkS s2).trans ((tkS s3).trans (tkS s4)))
    refine ⟨_, rfl, a, _, _, _, rfl, rfl, SqT.of ha4, rfl, vr, r, rfl, hr4, hw.r, Nat.lt_of_lt_of_le ht_r (Nat.le_of_lt_succ hn), fun p5 H5 s5 _ e5 => ?_⟩
    refine ⟨p4, p5, _, _, rfl, rfl, s5 _ _ upd_same, e5, by rw [List.length_append, List.length_map, List.length_map, List.length_singleton]; exact line_of (by omega), fun p6 n6 => ?_⟩
    refine q p6 _ (s1.trans (s2.trans (s3.trans (s4.trans (s5.trans (same_new n6 _)))))) ((s1.trans (s2.trans (s3.trans (s4.trans s5)))).free n6) ?_
    rw [upd_same]
    show some (HO.lst ((l.keys.map V.int ++ [.int k]) ++ r.keys.map V.int)) = some (.lst ((l.keys ++ k :: r.keys).map V.int))
    rw [List.map_append, List.map_cons, List.append_assoc]
    rfl
theorem c_keys (D : Def K mg 12 "keys_of" ["shape"]) : ∀ n : Nat, Cal P w K mg base "keys_of" ["shape"] (n + 1) (spKeys n)
  | 0 => (D.zero fun vs H Q E h => by
      obtain ⟨_, _, _, _, _, h, _⟩ := h
      exact absurd h (Nat.not_lt_zero _)).up (Nat.zero_le _)
  | n + 1 => c_keys1 D (c_keys D n)
end
end Tt

/-! TtP2 -/
namespace Tt
open PySem PySem.Spec PyProof.Rows L2
open T (nd lf)
section
variable {P : Program} {w : World} {K : PySem.W.Frag} {mg : Str → Option Value} {base : Heap}
/-! ### turning.py -/
def spLup : Sp := fun vs H Q _ => ∃ (v : V) (a b r : T) (y x : Int), vs = [v] ∧ TreeAt H v (nd (nd a y b) x r) ∧ ∀ v' H', Same H H' → TreeAt H' v' (nd a y (nd b x r)) → Q v' H'
theorem sc17 : FnScope ["part", "left", "top", "right"] ["part"] (defScope (top 17)) := ⟨rfl, rfl, rfl, by decide +kernel, rfl, by decide +kernel, by decide +kernel⟩
theorem c_lup (D : Def K mg 17 "left_up" ["part"]) : Cal P w K mg base "left_up" ["part"] 1 spLup := by
  refine D.cal sc17 (fun vs H Q E h => ?_) (fun f cdv A outer s H vs Q E hr h => ?_)
  · obtain ⟨v, _, _, _, _, _, rfl, _⟩ := h
    rfl
  obtain ⟨v, a, b, r, y, x, rfl, ⟨p, vl, vr, rfl, hp, ⟨p', va, vb, rfl, hp', ha, hb⟩, hrr⟩, q⟩ := h
  refine ⟨_, pss_cons (ps_asg (pv 0) (pg_tup rfl (pgs_cons (pg_name (i := 1) sc17.nd rfl (.inl rfl)) (pgs_cons (pg_name (i := 2) sc17.nd rfl (.inl rfl)) (pgs_cons (pg_name (i := 3) sc17.nd rfl (.inl rfl)) pgs_nil)))))
    (pss_one (ps_ret (pe_tup (pa_cons (pe_ix ix_tup (pv 1) pe_int (fun _ _ => rfl)) (pa_cons (pe_ix ix_tup (pv 1) pe_int (fun _ _ => rfl))
      (pa_cons (pe_tup (pa_cons (pe_ix ix_tup (pv 1) pe_int (fun _ _ => rfl)) (pa_cons (pv 2) (pa_cons (pv 3) pa_nil)))) pa_nil)))))), ?_⟩
  refine ⟨_, rfl, p, _, rfl, SqT.of hp, rfl, _, _, rfl, _, _, rfl, _, _, rfl, rfl, ?_⟩
  refine ⟨_, rfl, p', _, _, _, rfl, rfl, SqT.of hp', rfl, _, rfl, p', _, _, _, rfl, rfl, SqT.of hp', rfl, _, rfl, p', _, _, _, rfl, rfl, SqT.of hp', rfl, _, rfl, _, rfl, small3, fun p1 n1 => ⟨small3, fun p2 n2 => ?_⟩⟩
  have s1 := same_new n1 (.tup [vb, .int x, vr])
  exact q _ _ (s1.trans (same_new n2 _)) (tree_new n2 (ha.mono (tkS s1)) (tree_new n1 hb hrr))
def spRup : Sp := fun vs H Q _ => ∃ (v : V) (l a b : T) (x y : Int), vs = [v] ∧ TreeAt H v (nd l x (nd a y b)) ∧ ∀ v' H', Same H H' → TreeAt H' v' (nd (nd l x a) y b) → Q v' H'
theorem sc18 : FnScope ["part", "left", "top", "right"] ["part"] (defScope (top 18)) := ⟨rfl, rfl, rfl, by decide +kernel, rfl, by decide +kernel, by decide +kernel⟩
theorem c_rup (D : Def K mg 18 "right_up" ["part"]) : Cal P w K mg base "right_up" ["part"] 1 spRup := by
  refine D.cal sc18 (fun vs H Q E h => ?_) (fun f cdv A outer s H vs Q E hr h => ?_)
  · obtain ⟨v, _, _, _, _, _, rfl, _⟩ := h
    rfl
  obtain ⟨v, l, a, b, x, y, rfl, ⟨p, vl, vr, rfl, hp, hl, ⟨p', va, vb, rfl, hp', ha, hb⟩⟩, q⟩ := h
  refine ⟨_, pss_cons (ps_asg (pv 0) (pg_tup rfl (pgs_cons (pg_name (i := 1) sc18.nd rfl (.inl rfl)) (pgs_cons (pg_name (i := 2) sc18.nd rfl (.inl rfl)) (pgs_cons (pg_name (i := 3) sc18.nd rfl (.inl rfl)) pgs_nil)))))
    (pss_one (ps_ret (pe_tup (pa_cons (pe_tup (pa_cons (pv 1) (pa_cons (pv 2) (pa_cons (pe_ix ix_tup (pv 3) pe_int (fun _ _ => rfl)) pa_nil)))) (pa_cons (pe_ix ix_tup (pv 3) pe_int (fun _ _ => rfl)) (pa_cons (pe_ix ix_tup (pv 3) pe_int (fun _ _ => rfl)) pa_nil)))))), ?_⟩
  refine ⟨_, rfl, p, _, rfl, SqT.of hp, rfl, _, _, rfl, _, _, rfl, _, _, rfl, rfl, ?_⟩
  refine ⟨_, rfl, _, rfl, _, rfl, p', _, _, _, rfl, rfl, SqT.of hp', rfl, small3, fun p1 n1 => ?_⟩
  have s1 := same_new n1 (.tup [vl, .int x, va])
  have hp1 := s1 _ _ hp'
  refine ⟨_, rfl, p', _, _, _, rfl, rfl, SqT.of hp1, rfl, _, rfl, p', _, _, _, rfl, rfl, SqT.of hp1, rfl, small3, fun p2 n2 => ?_⟩
  exact q _ _ (s1.trans (same_new n2 _)) (tree_new n2 (tree_new n1 hl ha) (hb.mono (tkS s1)))
/-- a key that is there and not the top is rotated up -/
def spTurn (n : Nat) : Sp := fun vs H Q _ => ∃ (v : V) (t : T) (k : Int), vs = [v, .int k] ∧ TreeAt H v t ∧ WT t ∧ k ∈ t.keys ∧ t.tk ≠ k ∧ t.ht < n ∧ ∀ v' H', Same H H' → TreeAt H' v' (turn t k) → Q v' H'
theorem sc19 : FnScope ["shape", "key", "left", "top", "right"] ["shape", "key"] (defScope (top 19)) := ⟨rfl, rfl, rfl, by decide +kernel, rfl, by decide +kernel, by decide +kernel⟩
theorem c_turn1 {n : Nat} (D : Def K mg 19 "turned" ["shape", "key"]) (CL : Cal P w K mg base "left_up" ["part"] 1 spLup) (CR : Cal P w K mg base "right_up" ["part"] 1 spRup) (R : Cal P w K mg base "turned" ["shape", "key"] (n + 1) (spTurn n)) :
    Cal P w K mg base "turned" ["shape", "key"] (n + 2) (spTurn (n + 1)) := by
  refine D.cal sc19 (fun vs H Q E h => ?_) (fun f cdv A outer s H vs Q E hr h => ?_)
  · obtain ⟨v, _, _, rfl, _⟩ := h
    rfl
  obtain ⟨v, t, k, rfl, ht, hw, hk, hne, hn, q⟩ := h
  cases t with
  | lf => cases hk
  | nd l x r =>
  obtain ⟨p, vl, vr, rfl, hp, hl, hrr⟩ := id ht
  refine ⟨_, pss_cons (ps_asg (pv 0) (pg_tup rfl (pgs_cons (pg_name (i := 2) sc19.nd rfl (.inl rfl)) (pgs_cons (pg_name (i := 3) sc19.nd rfl (.inl rfl)) (pgs_cons (pg_name (i := 4) sc19.nd rfl (.inl rfl)) pgs_nil)))))
    (pss_cons (ps_if (pt_cmpR op_lt (pv 1) (pv 3) (nomark _))
      (pss_one (ps_ret (pe_ifExp (pt_cmpR op_eq (pe_ix ix_tup (pv 2) pe_int (fun _ _ => rfl)) (pv 1) (nomark _)) (pe_cal CL hr (pa_cons (pv 0) pa_nil))
        (pe_tup (pa_cons (pe_cal R hr (pa_cons (pv 2) (pa_cons (pv 1) pa_nil))) (pa_cons (pv 3) (pa_cons (pv 4) pa_nil))))))) pss_nil)
    (pss_one (ps_ret (pe_ifExp (pt_cmpR op_eq (pe_ix ix_tup (pv 4) pe_int (fun _ _ => rfl)) (pv 1) (nomark _)) (pe_cal CR hr (pa_cons (pv 0) pa_nil))
        (pe_tup (pa_cons (pv 2) (pa_cons (pv 3) (pa_cons (pe_cal R hr (pa_cons (pv 4) (pa_cons (pv 1) pa_nil))) pa_nil)))))))), ?_⟩
  refine ⟨_, rfl, p, _, rfl, SqT.of hp, rfl, _, _, rfl, _, _, rfl, _, _, rfl, rfl, ?_⟩
  refine ⟨_, rfl, _, rfl, _, _, rfl, rfl, _, rfl, ite2 (fun c => ?_) (fun c => ?_)⟩
  · have c : k < x := of_decide_eq_true c
    have ml := hw.inl hk c
    cases l with
    | lf => cases ml
    | nd a y b =>
    obtain ⟨p', va, vb, rfl, hp', ha, hb⟩ := id hl
    refine ⟨_, rfl, p', _, _, _, rfl, rfl, SqT.of hp', rfl, _, rfl, rfl, _, rfl, ite2 (fun d => ?_) (fun d => ?_)⟩
    · have d := int_inj d
      have e : turn (nd (nd a y b) x r) k = nd a y (nd b x r) := by
        show (if k < x then (if y = k then lup (nd (nd a y b) x r) else _) else _) = _
        rw [if_pos c, if_pos d]
        rfl
      rw [e] at q
      exact ⟨_, rfl, _, a, b, r, y, x, rfl, ht, q⟩
    · have d := int_ne d
      have e : turn (nd (nd a y b) x r) k = nd (turn (nd a y b) k) x r := by
        show (if k < x then (if y = k then _ else nd (turn (nd a y b) k) x r) else _) = _
        rw [if_pos c, if_neg d]
      rw [e] at q
      refine ⟨_, rfl, _, rfl, _, nd a y b, k, rfl, hl, hw.l, ml, d, Nat.lt_of_lt_of_le ht_l (Nat.le_of_lt_succ hn), fun v1 H1 s1 h1 => ?_⟩
      refine ⟨_, rfl, _, rfl, small3, fun p2 n2 => ?_⟩
      exact q _ _ (s1.trans (same_new n2 _)) (tree_new n2 h1 (hrr.mono (tkS s1)))
  · have c : ¬ k < x := fun z => c (decide_eq_true z)
    have ne : x ≠ k := hne
    have mr := hw.inr hk (by omega)
    cases r with
    | lf => cases mr
    | nd a y b =>
    obtain ⟨p', va, vb, rfl, hp', ha, hb⟩ := id hrr
    refine ⟨_, rfl, p', _, _, _, rfl, rfl, SqT.of hp', rfl, _, rfl, rfl, _, rfl, ite2 (fun d => ?_) (fun d => ?_)⟩
    · have d := int_inj d
      have e : turn (nd l x (nd a y b)) k = nd (nd l x a) y b := by
        show (if k < x then _ else (if y = k then rup (nd l x (nd a y b)) else _)) = _
        rw [if_neg c, if_pos d]
        rfl
      rw [e] at q
      exact ⟨_, rfl, _, l, a, b, x, y, rfl, ht, q⟩
    · have d := int_ne d
      have e : turn (nd l x (nd a y b)) k = nd l x (turn (nd a y b) k) := by
        show (if k < x then _ else (if y = k then _ else nd l x (turn (nd a y b) k))) = _
        rw [if_neg c, if_neg d]
      rw [e] at q
      refine ⟨_, rfl, _, rfl, _, rfl, _, rfl, _, nd a y b, k, rfl, hrr, hw.r, mr, d, Nat.lt_of_lt_of_le ht_r (Nat.le_of_lt_succ hn), fun v1 H1 s1 h1 => ?_⟩
      refine ⟨small3, fun p2 n2 => ?_⟩
      exact q _ _ (s1.trans (same_new n2 _)) (tree_new n2 (hl.mono (tkS s1)) h1)
theorem c_turn (D : Def K mg 19 "turned" ["shape", "key"]) (CL : Cal P w K mg base "left_up" ["part"] 1 spLup) (CR : Cal P w K mg base "right_up" ["part"] 1 spRup) : ∀ n : Nat, Cal P w K mg base "turned" ["shape", "key"] (n + 1) (spTurn n)
  | 0 => (D.zero fun vs H Q E h => by
      obtain ⟨_, _, _, _, _, _, _, _, h, _⟩ := h
      exact absurd h (Nat.not_lt_zero _)).up (Nat.zero_le _)
  | n + 1 => c_turn1 D CL CR (c_turn D CL CR n)
/-! ### plainly.py -/
def spLeaf (n : Nat) : Sp := fun vs H Q _ => ∃ (v : V) (t : T) (k : Int), vs = [v, .int k] ∧ TreeAt H v t ∧ WT t ∧ t.ht < n ∧ ∀ v' H', Same H H' → TreeAt H' v' (wleaf t k) → Q v' H'
theorem sc21 : FnScope ["shape", "key", "left", "top", "right"] ["shape", "key"] (defScope (top 21)) := ⟨rfl, rfl, rfl, by decide +kernel, rfl, by decide +kernel, by decide +kernel⟩
theorem c_leaf1 {n : Nat} (D : Def K mg 21 "with_leaf" ["shape", "key"]) (R : Cal P w K mg base "with_leaf" ["shape", "key"] (n + 1) (spLeaf n)) : Cal P w K mg base "with_leaf" ["shape", "key"] (n + 2) (spLeaf (n + 1)) := by
  refine D.cal sc21 (fun vs H Q E h => ?_) (fun f cdv A outer s H vs Q E hr h => ?_)
  · obtain ⟨v, _, _, rfl, _⟩ := h
    rfl
  obtain ⟨v, t, k, rfl, ht, hw, hn, q⟩ := h
  refine ⟨_, pss_cons (ps_if (pt_cmpR (op_eqLf hr.units) (pv 0) pe_unit (nomark _)) (pss_one (ps_ret (pe_tup (pa_cons pe_unit (pa_cons (pv 1) (pa_cons pe_unit pa_nil)))))) pss_nil)
    (pss_cons (ps_asg (pv 0) (pg_tup rfl (pgs_cons (pg_name (i := 2) sc21.nd rfl (.inl rfl)) (pgs_cons (pg_name (i := 3) sc21.nd rfl (.inl rfl)) (pgs_cons (pg_name (i := 4) sc21.nd rfl (.inl rfl)) pgs_nil)))))
    (pss_one (ps_ret (pe_ifExp (pt_cmpR op_lt (pv 1) (pv 3) (nomark _)) (pe_tup (pa_cons (pe_cal R hr (pa_cons (pv 2) (pa_cons (pv 1) pa_nil))) (pa_cons (pv 3) (pa_cons (pv 4) pa_nil))))
      (pe_tup (pa_cons (pv 2) (pa_cons (pv 3) (pa_cons (pe_cal R hr (pa_cons (pv 4) (pa_cons (pv 1) pa_nil))) pa_nil)))))))), ?_⟩
  refine ⟨_, rfl, fun e H1 s1 he => ⟨t, ht.mono (tkS s1), hw, he, _, rfl, ?_⟩⟩
  cases t with
  | lf =>
    refine iteT fun v2 H2 s2 h2 => ⟨_, rfl, fun v3 H3 s3 h3 => ⟨small3, fun p4 n4 => ?_⟩⟩
    exact q _ _ (s1.trans (s2.trans (s3.trans (same_new n4 _)))) (tree_new n4 (h2.mono (tkS s3)) h3)
  | nd l x r =>
    obtain ⟨p, vl, vr, rfl, hp, hl, hrr⟩ := ht.mono (tkS s1)
    refine iteF ⟨_, rfl, p, _, rfl, SqT.of hp, rfl, _, _, rfl, _, _, rfl, _, _, rfl, rfl, ?_⟩
    refine ⟨_, rfl, _, rfl, _, _, rfl, rfl, _, rfl, ite2 (fun c => ?_) (fun c => ?_)⟩
    · have c : k < x := of_decide_eq_true c
      have e : wleaf (nd l x r) k = nd (wleaf l k) x r := if_pos c
      rw [e] at q
      refine ⟨_, rfl, _, rfl, _, l, k, rfl, hl, hw.l, Nat.lt_of_lt_of_le ht_l (Nat.le_of_lt_succ hn), fun v2 H2 s2 h2 => ?_⟩
      refine ⟨_, rfl, _, rfl, small3, fun p3 n3 => ?_⟩
      exact q _ _ (s1.trans (s2.trans (same_new n3 _))) (tree_new n3 h2 (hrr.mono (tkS s2)))
    · have c : ¬ k < x := fun z => c (decide_eq_true z)
      have e : wleaf (nd l x r) k = nd l x (wleaf r k) := if_neg c
      rw [e] at q
      refine ⟨_, rfl, _, rfl, _, rfl, _, rfl, _, r, k, rfl, hrr, hw.r, Nat.lt_of_lt_of_le ht_r (Nat.le_of_lt_succ hn), fun v2 H2 s2 h2 => ?_⟩
      refine ⟨small3, fun p3 n3 => ?_⟩
      exact q _ _ (s1.trans (s2.trans (same_new n3 _))) (tree_new n3 (hl.mono (tkS s2)) h2)
theorem c_leaf (D : Def K mg 21 "with_leaf" ["shape", "key"]) : ∀ n : Nat, Cal P w K mg base "with_leaf" ["shape", "key"] (n + 1) (spLeaf n)
  | 0 => (D.zero fun vs H Q E h => by
      obtain ⟨_, _, _, _, _, _, h, _⟩ := h
      exact absurd h (Nat.not_lt_zero _)).up (Nat.zero_le _)
  | n + 1 => c_leaf1 D (c_leaf D n)
def spLeast (n : Nat) : Sp := fun vs H Q _ => ∃ (v : V) (t : T), vs = [v] ∧ TreeAt H v t ∧ WT t ∧ t.isLf = false ∧ t.ht < n ∧ ∀ H', Same H H' → Q (.int (least t)) H'
theorem sc22 : FnScope ["shape"] ["shape"] (defScope (top 22)) := ⟨rfl, rfl, rfl, by decide +kernel, rfl, by decide +kernel, by decide +kernel⟩
theorem c_least1 {n : Nat} (D : Def K mg 22 "least" ["shape"]) (R : Cal P w K mg base "least" ["shape"] (n + 1) (spLeast n)) : Cal P w K mg base "least" ["shape"] (n + 2) (spLeast (n + 1)) := by
  refine D.cal sc22 (fun vs H Q E h => ?_) (fun f cdv A outer s H vs Q E hr h => ?_)
  · obtain ⟨v, _, rfl, _⟩ := h
    rfl
  obtain ⟨v, t, rfl, ht, hw, hlf, hn, q⟩ := h
  cases t with
  | lf => cases hlf
  | nd l x r =>
  obtain ⟨p, vl, vr, rfl, hp, hl, hrr⟩ := id ht
  refine ⟨_, pss_one (ps_ret (pe_ifExp (pt_cmpR (op_eqLf hr.units) (pe_ix ix_tup (pv 0) pe_int (fun _ _ => rfl)) pe_unit (nomark _)) (pe_ix ix_tup (pv 0) pe_int (fun _ _ => rfl)) (pe_cal R hr (pa_cons (pe_ix ix_tup (pv 0) pe_int (fun _ _ => rfl)) pa_nil)))), ?_⟩
  refine ⟨_, rfl, p, _, _, _, rfl, rfl, SqT.of hp, rfl, fun e H1 s1 he => ⟨l, hl.mono (tkS s1), hw.l, he, _, rfl, ?_⟩⟩
  have hp1 := s1 _ _ hp
  cases c : l.isLf with
  | true =>
    have e : least (nd l x r) = x := if_pos c
    rw [e] at q
    exact iteT ⟨_, rfl, p, _, _, _, rfl, rfl, SqT.of hp1, rfl, q _ s1⟩
  | false =>
    have e : least (nd l x r) = least l := if_neg (by rw [c]; decide)
    rw [e] at q
    exact iteF ⟨_, rfl, p, _, _, _, rfl, rfl, SqT.of hp1, rfl, _, l, rfl, hl.mono (tkS s1), hw.l, c, Nat.lt_of_lt_of_le ht_l (Nat.le_of_lt_succ hn), fun H2 s2 => q _ (s1.trans s2)⟩
theorem c_least (D : Def K mg 22 "least" ["shape"]) : ∀ n : Nat, Cal P w K mg base "least" ["shape"] (n + 1) (spLeast n)
  | 0 => (D.zero fun vs H Q E h => by
      obtain ⟨_, _, _, _, _, _, h, _⟩ := h
      exact absurd h (Nat.not_lt_zero _)).up (Nat.zero_le _)
  | n + 1 => c_least1 D (c_least D n)
end
end Tt

/-! TtP3 -/
namespace Tt
open PySem PySem.Spec PyProof.Rows L2
open T (nd lf)
section
variable {P : Program} {w : World} {K : PySem.W.Frag} {mg : Str → Option Value} {base : Heap}
def spWout (n : Nat) : Sp := fun vs H Q _ => ∃ (v : V) (t : T) (k : Int), vs = [v, .int k] ∧ TreeAt H v t ∧ WT t ∧ k ∈ t.keys ∧ t.ht < n ∧ ∀ v' H', Same H H' → TreeAt H' v' (wout t k) → Q v' H'
theorem sc24 : FnScope ["shape", "key", "left", "top", "right", "new"] ["shape", "key"] (defScope (top 24)) := ⟨rfl, rfl, rfl, by decide +kernel, rfl, by decide +kernel, by decide +kernel⟩
theorem c_wout1 {n : Nat} (hn7 : n ≤ 7) (D : Def K mg 24 "without" ["shape", "key"]) (CL : Cal P w K mg base "least" ["shape"] 8 (spLeast 7)) (R : Cal P w K mg base "without" ["shape", "key"] (n + 9) (spWout n)) :
    Cal P w K mg base "without" ["shape", "key"] (n + 10) (spWout (n + 1)) := by
  refine D.cal sc24 (fun vs H Q E h => ?_) (fun f cdv A outer s H vs Q E hr h => ?_)
  · obtain ⟨v, _, _, rfl, _⟩ := h
    rfl
  obtain ⟨v, t, k, rfl, ht, hw, hk, hn, q⟩ := h
  cases t with
  | lf => cases hk
  | nd l x r =>
  obtain ⟨p, vl, vr, rfl, hp, hl, hrr⟩ := id ht
  refine ⟨_, pss_cons (ps_asg (pv 0) (pg_tup rfl (pgs_cons (pg_name (i := 2) sc24.nd rfl (.inl rfl)) (pgs_cons (pg_name (i := 3) sc24.nd rfl (.inl rfl)) (pgs_cons (pg_name (i := 4) sc24.nd rfl (.inl rfl)) pgs_nil)))))
    (pss_cons (ps_if (pt_cmpR op_lt (pv 1) (pv 3) (nomark _)) (pss_one (ps_ret (pe_tup (pa_cons (pe_cal R hr (pa_cons (pv 2) (pa_cons (pv 1) pa_nil))) (pa_cons (pv 3) (pa_cons (pv 4) pa_nil)))))) pss_nil)
    (pss_cons (ps_if (pt_cmpR op_gt (pv 1) (pv 3) (nomark _)) (pss_one (ps_ret (pe_tup (pa_cons (pv 2) (pa_cons (pv 3) (pa_cons (pe_cal R hr (pa_cons (pv 4) (pa_cons (pv 1) pa_nil))) pa_nil)))))) pss_nil)
    (pss_cons (ps_if (PW.pt (pw_or (pt_cmpR (op_eqLf hr.units) (pv 2) pe_unit (nomark _)) (pw_or1 (pt_cmpR (op_eqLf hr.units) (pv 4) pe_unit (nomark _)))))
      (pss_one (ps_ret (pe_ifExp (pt_cmpR (op_eqLf hr.units) (pv 4) pe_unit (nomark _)) (pv 2) (pv 4)))) pss_nil)
    (pss_cons (ps_set (i := 5) sc24.nd rfl (Or.inl rfl) (pe_cal CL hr (pa_cons (pv 4) pa_nil)))
    (pss_one (ps_ret (pe_tup (pa_cons (pv 2) (pa_cons (pv 5) (pa_cons (pe_cal R hr (pa_cons (pv 4) (pa_cons (pv 5) pa_nil))) pa_nil)))))))))), ?_⟩
  refine ⟨_, rfl, p, _, rfl, SqT.of hp, rfl, _, _, rfl, _, _, rfl, _, _, rfl, rfl, ?_⟩
  refine ⟨_, rfl, _, rfl, _, _, rfl, rfl, _, rfl, ite2 (fun c => ?_) (fun c => ?_)⟩
  · have c : k < x := of_decide_eq_true c
    have e : wout (nd l x r) k = nd (wout l k) x r := if_pos c
    rw [e] at q
    refine ⟨_, rfl, _, rfl, _, l, k, rfl, hl, hw.l, hw.inl hk c, Nat.lt_of_lt_of_le ht_l (Nat.le_of_lt_succ hn), fun v2 H2 s2 h2 => ?_⟩
    refine ⟨_, rfl, _, rfl, small3, fun p3 n3 => ?_⟩
    exact q _ _ (s2.trans (same_new n3 _)) (tree_new n3 h2 (hrr.mono (tkS s2)))
  have c : ¬ k < x := fun z => c (decide_eq_true z)
  refine ⟨_, rfl, _, rfl, _, _, rfl, rfl, _, rfl, ite2 (fun d => ?_) (fun d => ?_)⟩
  · have d : x < k := of_decide_eq_true d
    have e : wout (nd l x r) k = nd l x (wout r k) := by
      show (if k < x then _ else if x < k then _ else _) = _
      rw [if_neg c, if_pos d]
    rw [e] at q
    refine ⟨_, rfl, _, rfl, _, rfl, _, rfl, _, r, k, rfl, hrr, hw.r, hw.inr hk d, Nat.lt_of_lt_of_le ht_r (Nat.le_of_lt_succ hn), fun v2 H2 s2 h2 => ?_⟩
    refine ⟨small3, fun p3 n3 => ?_⟩
    exact q _ _ (s2.trans (same_new n3 _)) (tree_new n3 (hl.mono (tkS s2)) h2)
  have d : ¬ x < k := fun z => d (decide_eq_true z)
  have e : wout (nd l x r) k = if r.isLf then l else if l.isLf then r else nd l (least r) (wout r (least r)) := by
    show (if k < x then _ else if x < k then _ else _) = _
    rw [if_neg c, if_neg d]
  rw [e] at q
  refine ⟨_, rfl, fun e1 H1 s1 h1 => ⟨l, hl.mono (tkS s1), hw.l, h1, _, rfl, ?_⟩⟩
  cases cl : l.isLf with
  | true =>
    refine iteT (iteT ?_)
    refine ⟨_, rfl, fun e2 H2 s2 h2 => ⟨r, hrr.mono ((tkS s1).trans (tkS s2)), hw.r, h2, _, rfl, ?_⟩⟩
    have s12 := s1.trans s2
    rw [cl] at q
    cases cr : r.isLf with
    | true =>
      rw [cr] at q
      exact iteT ⟨_, rfl, q _ _ s12 (hl.mono (tkS s12))⟩
    | false =>
      rw [cr] at q
      exact iteF ⟨_, rfl, q _ _ s12 (hrr.mono (tkS s12))⟩
  | false =>
    rw [cl] at q
    refine iteF ⟨_, rfl, fun e2 H2 s2 h2 => ⟨r, hrr.mono ((tkS s1).trans (tkS s2)), hw.r, h2, _, rfl, ?_⟩⟩
    have s12 := s1.trans s2
    cases cr : r.isLf with
    | true =>
      rw [cr] at q
      refine iteT ⟨_, rfl, fun e3 H3 s3 h3 => ⟨r, hrr.mono ((tkS s12).trans (tkS s3)), hw.r, h3, _, rfl, ?_⟩⟩
      rw [cr]
      exact iteT ⟨_, rfl, q _ _ (s12.trans s3) (hl.mono (tkS (s12.trans s3)))⟩
    | false =>
      rw [cr] at q
      refine iteF ⟨_, rfl, _, r, rfl, hrr.mono (tkS s12), hw.r, cr, Nat.lt_succ_of_le hw.r.ht, fun H3 s3 => ?_⟩
      have s13 := s12.trans s3
      refine ⟨_, rfl, _, rfl, _, rfl, _, rfl, _, r, least r, rfl, hrr.mono (tkS s13), hw.r, least_mem cr, Nat.lt_of_lt_of_le ht_r (Nat.le_of_lt_succ hn), fun v4 H4 s4 h4 => ?_⟩
      refine ⟨small3, fun p5 n5 => ?_⟩
      exact q _ _ (s13.trans (s4.trans (same_new n5 _))) (tree_new n5 (hl.mono (tkS (s13.trans s4))) h4)
theorem c_wout (D : Def K mg 24 "without" ["shape", "key"]) (CL : Cal P w K mg base "least" ["shape"] 8 (spLeast 7)) : ∀ n : Nat, n ≤ 7 → Cal P w K mg base "without" ["shape", "key"] (n + 9) (spWout n)
  | 0, _ => (D.zero fun vs H Q E h => by
      obtain ⟨_, _, _, _, _, _, _, h, _⟩ := h
      exact absurd h (Nat.not_lt_zero _)).up (Nat.zero_le _)
  | n + 1, h => c_wout1 (by omega) D CL (c_wout D CL n (by omega))
def once (t : T) (k : Int) : T := if t.tk = k then t else turn t k
def spOnce : Sp := fun vs H Q _ => ∃ (v : V) (t : T) (k : Int), vs = [v, .int k] ∧ TreeAt H v t ∧ WT t ∧ k ∈ t.keys ∧ ∀ v' H', Same H H' → TreeAt H' v' (once t k) → Q v' H'
theorem sc25 : FnScope ["shape", "key"] ["shape", "key"] (defScope (top 25)) := ⟨rfl, rfl, rfl, by decide +kernel, rfl, by decide +kernel, by decide +kernel⟩
theorem c_once (D : Def K mg 25 "once_up" ["shape", "key"]) (C : Cal P w K mg base "turned" ["shape", "key"] 8 (spTurn 7)) : Cal P w K mg base "once_up" ["shape", "key"] 9 spOnce := by
  refine D.cal sc25 (fun vs H Q E h => ?_) (fun f cdv A outer s H vs Q E hr h => ?_)
  · obtain ⟨v, _, _, rfl, _⟩ := h
    rfl
  obtain ⟨v, t, k, rfl, ht, hw, hk, q⟩ := h
  cases t with
  | lf => cases hk
  | nd l x r =>
  obtain ⟨p, vl, vr, rfl, hp, hl, hrr⟩ := id ht
  refine ⟨_, pss_one (ps_ret (pe_ifExp (pt_cmpR op_eq (pe_ix ix_tup (pv 0) pe_int (fun _ _ => rfl)) (pv 1) (nomark _)) (pv 0) (pe_cal C hr (pa_cons (pv 0) (pa_cons (pv 1) pa_nil))))), ?_⟩
  refine ⟨_, rfl, p, _, _, _, rfl, rfl, SqT.of hp, rfl, _, rfl, rfl, _, rfl, ite2 (fun d => ?_) (fun d => ?_)⟩
  · have d := int_inj d
    have e : once (nd l x r) k = nd l x r := if_pos d
    rw [e] at q
    exact ⟨_, rfl, q _ _ (Same.refl _) ht⟩
  · have d := int_ne d
    have e : once (nd l x r) k = turn (nd l x r) k := if_neg d
    rw [e] at q
    exact ⟨_, rfl, _, rfl, _, nd l x r, k, rfl, ht, hw, hk, d, Nat.lt_succ_of_le hw.ht, q⟩
def spTop : Sp := fun vs H Q _ => ∃ (v : V) (t : T) (k : Int), vs = [v, .int k] ∧ TreeAt H v t ∧ WT t ∧ k ∈ t.keys ∧ ∀ v' H', Same H H' → TreeAt H' v' (toTop t k) → Q v' H'
theorem sc26 : FnScope ["shape", "key"] ["shape", "key"] (defScope (top 26)) := ⟨rfl, rfl, rfl, by decide +kernel, rfl, by decide +kernel, by decide +kernel⟩
theorem c_toTop (D : Def K mg 26 "to_top" ["shape", "key"]) (C : Cal P w K mg base "turned" ["shape", "key"] 8 (spTurn 7)) : Cal P w K mg base "to_top" ["shape", "key"] 9 spTop := by
  refine D.cal sc26 (fun vs H Q E h => ?_) (fun f cdv A outer s H vs Q E hr h => ?_)
  · obtain ⟨v, _, _, rfl, _⟩ := h
    rfl
  obtain ⟨v, t, k, rfl, ht, hw, hk, q⟩ := h
  refine ⟨_, pss_cons (ps_while PassesOwn.never (pt_cmpR op_ne (pe_ix ix_tup (pv 0) pe_int (fun _ _ => rfl)) (pv 1) (nomark _)) (pss_one (ps_set (i := 0) sc26.nd rfl (Or.inl rfl) (pe_cal C hr (pa_cons (pv 0) (pa_cons (pv 1) pa_nil))))))
    (pss_one (ps_ret (pv 0))), ?_⟩
  refine ⟨fun m σ H1 => ∃ v1 t1, σ = [some v1, some (.int k)] ∧ Same H H1 ∧ TreeAt H1 v1 t1 ∧ WT t1 ∧ k ∈ t1.keys ∧ toTop t1 k = toTop t k ∧ m = dep t1 k, ⟨dep t k, v, t, rfl, Same.refl _, ht, hw, hk, rfl, rfl⟩, ?_⟩
  rintro m σ H1 ⟨v1, t1, rfl, s1, h1, w1, k1, e1, rfl⟩
  cases t1 with
  | lf => cases k1
  | nd l x r =>
  obtain ⟨p, vl, vr, rfl, hp, hl, hrr⟩ := id h1
  refine ⟨_, rfl, p, _, _, _, rfl, rfl, SqT.of hp, rfl, _, rfl, rfl, _, rfl, ite2 (fun d => ?_) (fun d => ?_)⟩
  · have d : x ≠ k := fun e => by
      rw [e] at d
      simp at d
    refine ⟨fun σ' H' => ∃ v2, σ' = [some v2, some (.int k)] ∧ Same H H' ∧ TreeAt H' v2 (turn (nd l x r) k), ?_, ?_⟩
    · rintro σ' H' ⟨v2, rfl, s2, h2⟩
      refine ⟨dep (turn (nd l x r) k) k, ?_, v2, _, rfl, s2, h2, w1.turn k, by rw [keys_turn]; exact k1, (toTop_turn w1 k1 d).trans e1, rfl⟩
      have := dep_turn w1 k1 d
      omega
    · exact ⟨_, rfl, _, rfl, _, nd l x r, k, rfl, h1, w1, k1, d, Nat.lt_succ_of_le w1.ht, fun v2 H2 s2 h2 => ⟨v2, rfl, s1.trans s2, h2⟩⟩
  · have d : x = k := Decidable.byContradiction fun e => d (by
      rw [decide_eq_false (fun z => e (V.int.inj z))]
      rfl)
    refine ⟨_, rfl, ?_⟩
    rw [← e1, toTop_top (t := nd l x r) d] at q
    exact q _ _ s1 h1
end
end Tt

/-! TtP4 -/
namespace Tt
open PySem PySem.Spec PyProof.Rows L2
open T (nd lf)
/-! ### rules, deeds -/
def Nm (nm : Str) : Prop := nm = "plain" ∨ nm = "once" ∨ nm = "top"
def RuleAt (H : Hp) (v : V) (nm : Str) : Prop := ∃ a, v = .ref a ∧ H a = some (.tup [.str nm])
def DeedAt (H : Hp) (v : V) (wd : Str) (k : Int) : Prop := ∃ a, v = .ref a ∧ H a = some (.tup [.str wd, .int k])
theorem RuleAt.mono {H H' : Hp} {v : V} {nm : Str} (h : TupK H H') : RuleAt H v nm → RuleAt H' v nm := fun ⟨a, e, q⟩ => ⟨a, e, h _ _ q⟩
theorem DeedAt.mono {H H' : Hp} {v : V} {wd : Str} {k : Int} (h : TupK H H') : DeedAt H v wd k → DeedAt H' v wd k := fun ⟨a, e, q⟩ => ⟨a, e, h _ _ q⟩
theorem Nm.cases {nm : Str} {p : Str → Prop} (h : Nm nm) (h1 : p "plain") (h2 : p "once") (h3 : p "top") : p nm := by
  rcases h with e | e | e <;> subst e <;> assumption
theorem str_ne {x y : Str} (h : x ≠ y) : ¬ decide (V.str x = V.str y) = true := fun e => h (V.str.inj (of_decide_eq_true e))
theorem str_eq {x y : Str} (h : x = y) : decide (V.str x = V.str y) = true := decide_eq_true (congrArg V.str h)
theorem strN_eq {x y : Str} (h : x = y) : ¬ (!decide (V.str x = V.str y)) = true := by rw [str_eq h]; decide
theorem strN_ne {x y : Str} (h : x ≠ y) : (!decide (V.str x = V.str y)) = true := by rw [Bool.eq_false_iff.mpr (str_ne h)]; rfl
theorem iteX {c A B : Prop} [Decidable c] (h : ¬ c) (x : B) : if c then A else B := by rw [if_neg h]; exact x
theorem iteY {c A B : Prop} [Decidable c] (h : c) (x : A) : if c then A else B := by rw [if_pos h]; exact x
theorem inV_int {k : Int} : ∀ {xs : List Int}, inV (.int k) (xs.map V.int) = decide (k ∈ xs)
  | [] => rfl
  | x :: xs => by
    show (eqV (.int x) (.int k) || inV (.int k) (xs.map V.int)) = _
    rw [inV_int (xs := xs)]
    show ((x == k) || decide (k ∈ xs)) = _
    by_cases e : x = k
    · subst e
      simp
    · have e2 : ¬ k = x := fun z => e z.symm
      simp [e, e2]
theorem flat_ints : ∀ xs : List Int, (xs.map V.int).all flatV = true
  | [] => rfl
  | x :: xs => by
    show (true && (xs.map V.int).all flatV) = true
    rw [flat_ints xs]
    rfl
/-- the table of the names of rules -/
structure Fam (K : PySem.W.Frag) (mg : Str → Option Value) : Prop where
  ex : ∃ a, mg "FAMILY" = some (.ref a) ∧ ∀ H, SqT K H a [.str "heights", .str "levels", .str "once", .str "plain", .str "rebuilt", .str "splayed", .str "top", .str "weights"]
def mv (nm : Str) (t : T) (k : Int) : T := if nm = "once" then once t k else if nm = "top" then toTop t k else t
def aft (nm : Str) (t : T) (wd : Str) (k : Int) : T := if wd = "ask" then mv nm t k else if wd = "in" then mv nm (wleaf t k) k else wout t k
def Poss (t : T) (wd : Str) (k : Int) : Prop := (wd = "in" ∧ k ∉ t.keys ∧ 1 ≤ k ∧ k ≤ 6) ∨ ((wd = "ask" ∨ wd = "out") ∧ k ∈ t.keys)
theorem keys_once (t : T) (k : Int) : (once t k).keys = t.keys := by
  unfold once
  split
  · rfl
  · exact keys_turn t k
theorem keys_mv (nm : Str) (t : T) (k : Int) : (mv nm t k).keys = t.keys := by
  unfold mv
  split
  · exact keys_once t k
  · split
    · exact keys_toTop t k
    · rfl
theorem wt_aft {t : T} {wd : Str} {k : Int} (h : WT t) (nm : Str) (p : Poss t wd k) : WT (aft nm t wd k) := by
  unfold aft
  split
  · exact h.of_keys (keys_mv _ _ _)
  · split
    · rename_i c1 c2
      rcases p with ⟨_, p1, p2, p3⟩ | ⟨p1 | p1, _⟩
      · exact (h.wleaf p2 p3 p1).of_keys (keys_mv _ _ _)
      · exact absurd p1 c1
      · rw [p1] at c2
        exact absurd c2 (by decide +kernel)
    · exact h.wout k
theorem aft_len (nm : Str) (t : T) (wd : Str) (k : Int) : (aft nm t wd k).keys.length ≤ t.keys.length + 1 := by
  unfold aft
  split
  · rw [keys_mv]
    omega
  · split
    · rw [keys_mv, wleaf_len]
      exact Nat.le_refl _
    · exact Nat.le_succ_of_le (wout_len t k)
section
variable {P : Program} {w : World} {K : PySem.W.Frag} {mg : Str → Option Value} {base : Heap}
/-! ### rules.py -/
def spRule : Sp := fun vs H Q _ => ∃ (v : V) (nm : Str), vs = [v] ∧ RuleAt H v nm ∧ Nm nm ∧ ∀ H', Same H H' → Q (.bl true) H'
theorem sc58 : FnScope ["candidate"] ["candidate"] (defScope (top 58)) := ⟨rfl, rfl, rfl, by decide +kernel, rfl, by decide +kernel, by decide +kernel⟩
theorem c_is_rule (D : Def K mg 58 "is_rule" ["candidate"]) (Z : Txt mg) (Y : Fam K mg) : Cal P w K mg base "is_rule" ["candidate"] 1 spRule := by
  refine D.cal sc58 (fun vs H Q E h => ?_) (fun f cdv A outer s H vs Q E hr h => ?_)
  · obtain ⟨v, _, rfl, _⟩ := h
    rfl
  obtain ⟨v, nm, rfl, ⟨a, rfl, ha⟩, hn, q⟩ := h
  obtain ⟨fa, hm, hF⟩ := Y.ex
  refine ⟨_, pss_cons (ps_if (PW.pt (pw_or (pt_not (pt_val (pe_callB call_isi (by rfl) Z.isi (by decide +kernel) (pa_cons (pv 0) (pa_cons (pe_bltn (v := .ty "tuple") (by rfl) Z.tuple (by decide +kernel) rfl) pa_nil)))))
        (pw_or (pt_cmpR (op_eqD hr.units) (pv 0) (pe_tup pa_nil) (nomark _))
          (pw_or1 (pt_not (pt_val (pe_callB call_isi (by rfl) Z.isi (by decide +kernel) (pa_cons (pe_ix ix_tup (pv 0) pe_int (fun _ _ => rfl)) (pa_cons (pe_bltn (v := .ty "str") (by rfl) Z.str (by decide +kernel) rfl) pa_nil)))))))))
      (pss_one ps_never) pss_nil)
    (pss_cons (ps_if (pt_cmpR op_in_seq (pe_ix ix_tup (pv 0) pe_int (fun _ _ => rfl)) (pe_glob (v := .ref fa) (by rfl) hm rfl) (by rfl))
      (pss_one (ps_ret (pe_cmpR op_eq (pe_callB call_len_seq (by rfl) Z.len PySem.boot_len (pa_cons (pv 0) pa_nil)) pe_int (nomark _)))) pss_nil) pss_never), ?_⟩
  refine ⟨_, rfl, _, _, _, _, true, rfl, .ty _, .base (.tup ha), kit_ty (by decide +kernel), _, rfl, iteF ?_⟩
  refine ⟨_, rfl, Nat.zero_le _, fun p np => ?_⟩
  have s1 := same_new np (.tup [])
  have ha1 := s1 _ _ ha
  refine ⟨.tuple [.str nm], .tuple [], .tup (SqT.of ha1) (.cons (.str nm) .nil), .tup (SqT.of upd_same) .nil, (by rcases hn with e | e | e <;> subst e <;> decide +kernel), by decide +kernel, _, ?_, iteF ?_⟩
  · show V.bl (PyData.eqv (.tuple [.str nm]) (.tuple [])) = V.bl false
    simp [PyData.eqv, PyData.eqvAll]
  refine ⟨_, rfl, a, _, _, _, rfl, rfl, SqT.of ha1, rfl, _, _, _, _, true, rfl, .ty _, .base (.str nm), kit_ty (by decide +kernel), _, rfl, iteF ?_⟩
  refine ⟨_, rfl, a, _, _, _, rfl, rfl, SqT.of ha1, rfl, fa, _, rfl, .inr (hF _), rfl, by decide +kernel, _, rfl, iteY ?_ ?_⟩
  · exact (by rcases hn with e | e | e <;> subst e <;> decide +kernel)
  refine ⟨_, rfl, a, _, rfl, .inr (SqT.of ha1), rfl, ?_⟩
  exact q _ s1
def spNeedRule : Sp := fun vs H Q _ => ∃ (v : V) (nm : Str), vs = [v] ∧ RuleAt H v nm ∧ Nm nm ∧ ∀ H', Same H H' → Q .non H'
theorem sc59 : FnScope ["value"] ["value"] (defScope (top 59)) := ⟨rfl, rfl, rfl, by decide +kernel, rfl, by decide +kernel, by decide +kernel⟩
theorem c_need_rule (D : Def K mg 59 "need_rule" ["value"]) (C : Cal P w K mg base "is_rule" ["candidate"] 1 spRule) : Cal P w K mg base "need_rule" ["value"] 2 spNeedRule := by
  refine D.cal sc59 (fun vs H Q E h => ?_) (fun f cdv A outer s H vs Q E hr h => ?_)
  · obtain ⟨v, _, rfl, _⟩ := h
    rfl
  obtain ⟨v, nm, rfl, hv, hn, q⟩ := h
  refine ⟨_, pss_one (ps_if (pt_not (pt_val (pe_cal C hr (pa_cons (pv 0) pa_nil)))) (pss_one ps_never) pss_nil), ?_⟩
  exact ⟨_, rfl, v, nm, rfl, hv, hn, fun H' s1 => ⟨_, rfl, iteF (q _ s1)⟩⟩
/-- every shape keeps the condition of these rules -/
def spKept : Sp := fun vs H Q _ => ∃ (r v : V) (nm : Str), vs = [r, v] ∧ RuleAt H r nm ∧ Nm nm ∧ ∀ H', Same H H' → Q (.bl true) H'
theorem sc61 : FnScope ["rule", "shape"] ["rule", "shape"] (defScope (top 61)) := ⟨rfl, rfl, rfl, by decide +kernel, rfl, by decide +kernel, by decide +kernel⟩
theorem no_hw {nm : Str} (hn : Nm nm) : ¬ (if false = true then !inV (.str nm) [.str "heights", .str "weights"] else inV (.str nm) [.str "heights", .str "weights"]) = true := by
  rcases hn with e | e | e <;> subst e <;> decide +kernel
theorem Nm.ne {nm x : Str} (hn : Nm nm) (h1 : ¬ ("plain" : Str) = x := by decide +kernel) (h2 : ¬ ("once" : Str) = x := by decide +kernel) (h3 : ¬ ("top" : Str) = x := by decide +kernel) : ¬ nm = x :=
  hn.cases (p := fun y => ¬ y = x) h1 h2 h3
theorem c_is_kept (D : Def K mg 61 "is_kept" ["rule", "shape"]) : Cal P w K mg base "is_kept" ["rule", "shape"] 1 spKept := by
  refine D.cal sc61 (fun vs H Q E h => ?_) (fun f cdv A outer s H vs Q E hr h => ?_)
  · obtain ⟨_, _, _, rfl, _⟩ := h
    rfl
  obtain ⟨r, v, nm, rfl, ⟨a, rfl, ha⟩, hn, q⟩ := h
  refine ⟨_, pss_cons (ps_if (pt_cmpR op_in_seq (pe_ix ix_tup (pv 0) pe_int (fun _ _ => rfl)) (pe_tup (pa_cons pe_str (pa_cons pe_str pa_nil))) (by rfl)) pss_never pss_nil)
    (pss_cons (ps_if (pt_cmpR op_eq (pe_ix ix_tup (pv 0) pe_int (fun _ _ => rfl)) pe_str (nomark _)) pss_never pss_nil)
    (pss_cons (ps_if (pt_cmpR op_eq (pe_ix ix_tup (pv 0) pe_int (fun _ _ => rfl)) pe_str (nomark _)) pss_never pss_nil)
    (pss_one (ps_ret (pe_or (pe_cmpR op_ne (pe_ix ix_tup (pv 0) pe_int (fun _ _ => rfl)) pe_str (nomark _)) (pe_one pe_no)))))), ?_⟩
  refine ⟨_, rfl, a, _, _, _, rfl, rfl, SqT.of ha, rfl, small2, fun p np => ?_⟩
  have s1 := same_new np (.tup [.str "heights", .str "weights"])
  have ha1 := s1 _ _ ha
  refine ⟨p, _, rfl, .inr (SqT.of upd_same), rfl, rfl, _, rfl, iteX (no_hw hn) ?_⟩
  refine ⟨_, rfl, a, _, _, _, rfl, rfl, SqT.of ha1, rfl, rfl, _, rfl, iteX (str_ne hn.ne) ?_⟩
  refine ⟨_, rfl, a, _, _, _, rfl, rfl, SqT.of ha1, rfl, rfl, _, rfl, iteX (str_ne hn.ne) ?_⟩
  refine ⟨_, rfl, a, _, _, _, rfl, rfl, SqT.of ha1, rfl, rfl, _, rfl, iteY (strN_ne hn.ne) ?_⟩
  exact q _ s1
end
end Tt

/-! TtP5 -/
namespace Tt
open PySem PySem.Spec PyProof.Rows L2
open T (nd lf)
section
variable {P : Program} {w : World} {K : PySem.W.Frag} {mg : Str → Option Value} {base : Heap}
def spKeeps : Sp := fun vs H Q _ => ∃ (r v : V) (nm : Str) (t : T), vs = [r, v] ∧ RuleAt H r nm ∧ Nm nm ∧ TreeAt H v t ∧ WT t ∧ ∀ H', Same H H' → Q (.bl true) H'
theorem sc62 : FnScope ["rule", "shape"] ["rule", "shape"] (defScope (top 62)) := ⟨rfl, rfl, rfl, by decide +kernel, rfl, by decide +kernel, by decide +kernel⟩
theorem c_keeps (D : Def K mg 62 "keeps" ["rule", "shape"]) (C1 : Cal P w K mg base "need_rule" ["value"] 2 spNeedRule) (C2 : Cal P w K mg base "need_shape" ["value"] 10 spNeedShape) (C3 : Cal P w K mg base "is_kept" ["rule", "shape"] 1 spKept) : Cal P w K mg base "keeps" ["rule", "shape"] 11 spKeeps := by
  refine D.cal sc62 (fun vs H Q E h => ?_) (fun f cdv A outer s H vs Q E hr h => ?_)
  · obtain ⟨_, _, _, _, rfl, _⟩ := h
    rfl
  obtain ⟨r, v, nm, t, rfl, hR, hn, ht, hw, q⟩ := h
  refine ⟨_, pss_cons (ps_expr (pe_cal C1 hr (pa_cons (pv 0) pa_nil))) (pss_cons (ps_expr (pe_cal C2 hr (pa_cons (pv 1) pa_nil))) (pss_one (ps_ret (pe_cal C3 hr (pa_cons (pv 0) (pa_cons (pv 1) pa_nil)))))), ?_⟩
  exact ⟨_, rfl, r, nm, rfl, hR, hn, fun H1 s1 => ⟨_, rfl, v, t, rfl, ht.mono (tkS s1), hw, fun H2 s2 => ⟨_, rfl, _, rfl, r, v, nm, rfl, hR.mono (tkS (s1.trans s2)), hn, fun H3 s3 => q _ (s1.trans (s2.trans s3))⟩⟩⟩
/-- the shape behind an ask -/
def spMoved : Sp := fun vs H Q _ => ∃ (r v : V) (nm : Str) (t : T) (k : Int), vs = [r, v, .int k] ∧ RuleAt H r nm ∧ Nm nm ∧ TreeAt H v t ∧ WT t ∧ k ∈ t.keys ∧ ∀ v' H', Same H H' → TreeAt H' v' (mv nm t k) → Q v' H'
theorem sc65 : FnScope ["rule", "shape", "key"] ["rule", "shape", "key"] (defScope (top 65)) := ⟨rfl, rfl, rfl, by decide +kernel, rfl, by decide +kernel, by decide +kernel⟩
theorem c_moved (D : Def K mg 65 "moved" ["rule", "shape", "key"]) (C1 : Cal P w K mg base "once_up" ["shape", "key"] 9 spOnce) (C2 : Cal P w K mg base "to_top" ["shape", "key"] 9 spTop) : Cal P w K mg base "moved" ["rule", "shape", "key"] 10 spMoved := by
  refine D.cal sc65 (fun vs H Q E h => ?_) (fun f cdv A outer s H vs Q E hr h => ?_)
  · obtain ⟨_, _, _, _, _, rfl, _⟩ := h
    rfl
  obtain ⟨r, v, nm, t, k, rfl, ⟨a, rfl, ha⟩, hn, ht, hw, hk, q⟩ := h
  refine ⟨_, pss_cons (ps_if (pt_cmpR op_eq (pe_ix ix_tup (pv 0) pe_int (fun _ _ => rfl)) pe_str (nomark _)) (pss_one (ps_ret (pe_cal C1 hr (pa_cons (pv 1) (pa_cons (pv 2) pa_nil))))) pss_nil)
    (pss_cons (ps_if (pt_cmpR op_eq (pe_ix ix_tup (pv 0) pe_int (fun _ _ => rfl)) pe_str (nomark _)) (pss_one (ps_ret (pe_cal C2 hr (pa_cons (pv 1) (pa_cons (pv 2) pa_nil))))) pss_nil)
    (pss_one (ps_ret (pe_ifExp (pt_cmpR op_eq (pe_ix ix_tup (pv 0) pe_int (fun _ _ => rfl)) pe_str (nomark _)) pe_no (pv 1))))), ?_⟩
  refine ⟨_, rfl, a, _, _, _, rfl, rfl, SqT.of ha, rfl, rfl, _, rfl, ?_⟩
  by_cases c1 : nm = "once"
  · have e : mv nm t k = once t k := if_pos c1
    rw [e] at q
    exact iteY (str_eq c1) ⟨_, rfl, _, rfl, v, t, k, rfl, ht, hw, hk, q⟩
  refine iteX (str_ne c1) ⟨_, rfl, a, _, _, _, rfl, rfl, SqT.of ha, rfl, rfl, _, rfl, ?_⟩
  by_cases c2 : nm = "top"
  · have e : mv nm t k = toTop t k := by
      show (if nm = "once" then _ else if nm = "top" then _ else _) = _
      rw [if_neg c1, if_pos c2]
    rw [e] at q
    exact iteY (str_eq c2) ⟨_, rfl, _, rfl, v, t, k, rfl, ht, hw, hk, q⟩
  have e : mv nm t k = t := by
    show (if nm = "once" then _ else if nm = "top" then _ else _) = _
    rw [if_neg c1, if_neg c2]
  rw [e] at q
  exact iteX (str_ne c2) ⟨_, rfl, a, _, _, _, rfl, rfl, SqT.of ha, rfl, rfl, _, rfl, iteX (str_ne hn.ne) ⟨_, rfl, q _ _ (Same.refl _) ht⟩⟩
def spWith : Sp := fun vs H Q _ => ∃ (r v : V) (nm : Str) (t : T) (k : Int), vs = [r, v, .int k] ∧ RuleAt H r nm ∧ Nm nm ∧ TreeAt H v t ∧ WT t ∧ k ∉ t.keys ∧ 1 ≤ k ∧ k ≤ 6 ∧ ∀ v' H', Same H H' → TreeAt H' v' (mv nm (wleaf t k) k) → Q v' H'
theorem sc63 : FnScope ["rule", "shape", "key"] ["rule", "shape", "key"] (defScope (top 63)) := ⟨rfl, rfl, rfl, by decide +kernel, rfl, by decide +kernel, by decide +kernel⟩
theorem c_with (D : Def K mg 63 "with_key" ["rule", "shape", "key"]) (C1 : Cal P w K mg base "with_leaf" ["shape", "key"] 8 (spLeaf 7)) (C2 : Cal P w K mg base "moved" ["rule", "shape", "key"] 10 spMoved) : Cal P w K mg base "with_key" ["rule", "shape", "key"] 11 spWith := by
  refine D.cal sc63 (fun vs H Q E h => ?_) (fun f cdv A outer s H vs Q E hr h => ?_)
  · obtain ⟨_, _, _, _, _, rfl, _⟩ := h
    rfl
  obtain ⟨r, v, nm, t, k, rfl, ⟨a, rfl, ha⟩, hn, ht, hw, hk, k1, k2, q⟩ := h
  refine ⟨_, pss_cons (ps_if (pt_cmpR op_in_seq (pe_ix ix_tup (pv 0) pe_int (fun _ _ => rfl)) (pe_tup (pa_cons pe_str (pa_cons pe_str pa_nil))) (by rfl)) pss_never pss_nil)
    (pss_cons (ps_if (pt_cmpR op_eq (pe_ix ix_tup (pv 0) pe_int (fun _ _ => rfl)) pe_str (nomark _)) pss_never pss_nil)
    (pss_cons (ps_if (pt_cmpR op_eq (pe_ix ix_tup (pv 0) pe_int (fun _ _ => rfl)) pe_str (nomark _)) pss_never pss_nil)
    (pss_cons (ps_if (pt_cmpR op_eq (pe_ix ix_tup (pv 0) pe_int (fun _ _ => rfl)) pe_str (nomark _)) pss_never pss_nil)
    (pss_one (ps_ret (pe_cal C2 hr (pa_cons (pv 0) (pa_cons (pe_cal C1 hr (pa_cons (pv 1) (pa_cons (pv 2) pa_nil))) (pa_cons (pv 2) pa_nil))))))))), ?_⟩
  refine ⟨_, rfl, a, _, _, _, rfl, rfl, SqT.of ha, rfl, small2, fun p np => ?_⟩
  have s1 := same_new np (.tup [.str "heights", .str "weights"])
  have ha1 := s1 _ _ ha
  refine ⟨p, _, rfl, .inr (SqT.of upd_same), rfl, rfl, _, rfl, iteX (no_hw hn) ?_⟩
  refine ⟨_, rfl, a, _, _, _, rfl, rfl, SqT.of ha1, rfl, rfl, _, rfl, iteX (str_ne hn.ne) ?_⟩
  refine ⟨_, rfl, a, _, _, _, rfl, rfl, SqT.of ha1, rfl, rfl, _, rfl, iteX (str_ne hn.ne) ?_⟩
  refine ⟨_, rfl, a, _, _, _, rfl, rfl, SqT.of ha1, rfl, rfl, _, rfl, iteX (str_ne hn.ne) ?_⟩
  refine ⟨_, rfl, _, rfl, _, rfl, v, t, k, rfl, ht.mono (tkS s1), hw, Nat.lt_succ_of_le hw.ht, fun v2 H2 s2 h2 => ?_⟩
  exact ⟨_, rfl, _, v2, nm, _, k, rfl, ⟨a, rfl, s2 _ _ ha1⟩, hn, h2, hw.wleaf k1 k2 hk, wleaf_mem t k, fun v3 H3 s3 h3 => q _ _ (s1.trans (s2.trans s3)) h3⟩
def spWithout : Sp := fun vs H Q _ => ∃ (r v : V) (nm : Str) (t : T) (k : Int), vs = [r, v, .int k] ∧ RuleAt H r nm ∧ Nm nm ∧ TreeAt H v t ∧ WT t ∧ k ∈ t.keys ∧ ∀ v' H', Same H H' → TreeAt H' v' (wout t k) → Q v' H'
theorem sc64 : FnScope ["rule", "shape", "key"] ["rule", "shape", "key"] (defScope (top 64)) := ⟨rfl, rfl, rfl, by decide +kernel, rfl, by decide +kernel, by decide +kernel⟩
theorem c_without (D : Def K mg 64 "without_key" ["rule", "shape", "key"]) (C1 : Cal P w K mg base "without" ["shape", "key"] 16 (spWout 7)) : Cal P w K mg base "without_key" ["rule", "shape", "key"] 17 spWithout := by
  refine D.cal sc64 (fun vs H Q E h => ?_) (fun f cdv A outer s H vs Q E hr h => ?_)
  · obtain ⟨_, _, _, _, _, rfl, _⟩ := h
    rfl
  obtain ⟨r, v, nm, t, k, rfl, ⟨a, rfl, ha⟩, hn, ht, hw, hk, q⟩ := h
  refine ⟨_, pss_cons (ps_if (pt_cmpR op_in_seq (pe_ix ix_tup (pv 0) pe_int (fun _ _ => rfl)) (pe_tup (pa_cons pe_str (pa_cons pe_str pa_nil))) (by rfl)) pss_never pss_nil)
    (pss_cons (ps_if (pt_cmpR op_eq (pe_ix ix_tup (pv 0) pe_int (fun _ _ => rfl)) pe_str (nomark _)) pss_never pss_nil)
    (pss_cons (ps_if (pt_cmpR op_eq (pe_ix ix_tup (pv 0) pe_int (fun _ _ => rfl)) pe_str (nomark _)) pss_never pss_nil)
    (pss_cons (ps_if (pt_cmpR op_eq (pe_ix ix_tup (pv 0) pe_int (fun _ _ => rfl)) pe_str (nomark _)) pss_never pss_nil)
    (pss_one (ps_ret (pe_ifExp (pt_cmpR op_eq (pe_ix ix_tup (pv 0) pe_int (fun _ _ => rfl)) pe_str (nomark _)) pe_no (pe_cal C1 hr (pa_cons (pv 1) (pa_cons (pv 2) pa_nil))))))))), ?_⟩
  refine ⟨_, rfl, a, _, _, _, rfl, rfl, SqT.of ha, rfl, small2, fun p np => ?_⟩
  have s1 := same_new np (.tup [.str "heights", .str "weights"])
  have ha1 := s1 _ _ ha
  refine ⟨p, _, rfl, .inr (SqT.of upd_same), rfl, rfl, _, rfl, iteX (no_hw hn) ?_⟩
  refine ⟨_, rfl, a, _, _, _, rfl, rfl, SqT.of ha1, rfl, rfl, _, rfl, iteX (str_ne hn.ne) ?_⟩
  refine ⟨_, rfl, a, _, _, _, rfl, rfl, SqT.of ha1, rfl, rfl, _, rfl, iteX (str_ne hn.ne) ?_⟩
  refine ⟨_, rfl, a, _, _, _, rfl, rfl, SqT.of ha1, rfl, rfl, _, rfl, iteX (str_ne hn.ne) ?_⟩
  refine ⟨_, rfl, a, _, _, _, rfl, rfl, SqT.of ha1, rfl, rfl, _, rfl, iteX (str_ne hn.ne) ?_⟩
  exact ⟨_, rfl, _, rfl, v, t, k, rfl, ht.mono (tkS s1), hw, hk, Nat.lt_succ_of_le hw.ht, fun v2 H2 s2 h2 => q _ _ (s1.trans s2) h2⟩
/-- the shape behind a deed that is possible -/
def spAfter : Sp := fun vs H Q _ => ∃ (r v d : V) (nm wd : Str) (t : T) (k : Int), vs = [r, v, d] ∧ RuleAt H r nm ∧ Nm nm ∧ TreeAt H v t ∧ WT t ∧ DeedAt H d wd k ∧ Poss t wd k ∧ ∀ v' H', Same H H' → TreeAt H' v' (aft nm t wd k) → Q v' H'
theorem sc66 : FnScope ["rule", "shape", "deed"] ["rule", "shape", "deed"] (defScope (top 66)) := ⟨rfl, rfl, rfl, by decide +kernel, rfl, by decide +kernel, by decide +kernel⟩
theorem c_behind (D : Def K mg 66 "behind" ["rule", "shape", "deed"]) (C1 : Cal P w K mg base "moved" ["rule", "shape", "key"] 10 spMoved) (C2 : Cal P w K mg base "with_key" ["rule", "shape", "key"] 11 spWith) (C3 : Cal P w K mg base "without_key" ["rule", "shape", "key"] 17 spWithout) :
    Cal P w K mg base "behind" ["rule", "shape", "deed"] 18 spAfter := by
  refine D.cal sc66 (fun vs H Q E h => ?_) (fun f cdv A outer s H vs Q E hr h => ?_)
  · obtain ⟨_, _, _, _, _, _, _, rfl, _⟩ := h
    rfl
  obtain ⟨r, v, d, nm, wd, t, k, rfl, hR, hn, ht, hw, ⟨a, rfl, ha⟩, hp, q⟩ := h
  refine ⟨_, pss_cons (ps_if (pt_cmpR op_eq (pe_ix ix_tup (pv 2) pe_int (fun _ _ => rfl)) pe_str (nomark _)) (pss_one (ps_ret (pe_cal C1 hr (pa_cons (pv 0) (pa_cons (pv 1) (pa_cons (pe_ix ix_tup (pv 2) pe_int (fun _ _ => rfl)) pa_nil)))))) pss_nil)
    (pss_one (ps_ret (pe_ifExp (pt_cmpR op_eq (pe_ix ix_tup (pv 2) pe_int (fun _ _ => rfl)) pe_str (nomark _)) (pe_cal C2 hr (pa_cons (pv 0) (pa_cons (pv 1) (pa_cons (pe_ix ix_tup (pv 2) pe_int (fun _ _ => rfl)) pa_nil))))
      (pe_cal C3 hr (pa_cons (pv 0) (pa_cons (pv 1) (pa_cons (pe_ix ix_tup (pv 2) pe_int (fun _ _ => rfl)) pa_nil))))))), ?_⟩
  refine ⟨_, rfl, a, _, _, _, rfl, rfl, SqT.of ha, rfl, rfl, _, rfl, ?_⟩
  by_cases c1 : wd = "ask"
  · have e : aft nm t wd k = mv nm t k := if_pos c1
    rw [e] at q
    have hk : k ∈ t.keys := by
      rcases hp with ⟨z, _⟩ | ⟨_, z⟩
      · rw [z] at c1
        exact absurd c1 (by decide +kernel)
      · exact z
    exact iteY (str_eq c1) ⟨_, rfl, _, rfl, _, rfl, a, _, _, _, rfl, rfl, SqT.of ha, rfl, r, v, nm, t, k, rfl, hR, hn, ht, hw, hk, q⟩
  refine iteX (str_ne c1) ⟨_, rfl, a, _, _, _, rfl, rfl, SqT.of ha, rfl, rfl, _, rfl, ?_⟩
  by_cases c2 : wd = "in"
  · have e : aft nm t wd k = mv nm (wleaf t k) k := by
      show (if wd = "ask" then _ else if wd = "in" then _ else _) = _
      rw [if_neg c1, if_pos c2]
    rw [e] at q
    obtain ⟨k1, k2, k3⟩ : k ∉ t.keys ∧ 1 ≤ k ∧ k ≤ 6 := by
      rcases hp with ⟨_, z⟩ | ⟨z | z, _⟩
      · exact z
      · exact absurd z c1
      · rw [z] at c2
        exact absurd c2 (by decide +kernel)
    exact iteY (str_eq c2) ⟨_, rfl, _, rfl, _, rfl, a, _, _, _, rfl, rfl, SqT.of ha, rfl, r, v, nm, t, k, rfl, hR, hn, ht, hw, k1, k2, k3, q⟩
  have e : aft nm t wd k = wout t k := by
    show (if wd = "ask" then _ else if wd = "in" then _ else _) = _
    rw [if_neg c1, if_neg c2]
  rw [e] at q
  have hk : k ∈ t.keys := by
    rcases hp with ⟨z, _⟩ | ⟨_, z⟩
    · exact absurd z c2
    · exact z
  exact iteX (str_ne c2) ⟨_, rfl, _, rfl, _, rfl, a, _, _, _, rfl, rfl, SqT.of ha, rfl, r, v, nm, t, k, rfl, hR, hn, ht, hw, hk, q⟩
def spDeed : Sp := fun vs H Q _ => ∃ (d : V) (wd : Str) (k : Int), vs = [d] ∧ DeedAt H d wd k ∧ (wd = "ask" ∨ wd = "in" ∨ wd = "out") ∧ 1 ≤ k ∧ k ≤ 6 ∧ ∀ H', Same H H' → Q (.bl true) H'
theorem sc67 : FnScope ["value"] ["value"] (defScope (top 67)) := ⟨rfl, rfl, rfl, by decide +kernel, rfl, by decide +kernel, by decide +kernel⟩
theorem c_is_deed (D : Def K mg 67 "is_deed" ["value"]) (Z : Txt mg) (C : Cal P w K mg base "is_number" ["value", "least", "most"] 1 spNumber) : Cal P w K mg base "is_deed" ["value"] 2 spDeed := by
  refine D.cal sc67 (fun vs H Q E h => ?_) (fun f cdv A outer s H vs Q E hr h => ?_)
  · obtain ⟨_, _, _, rfl, _⟩ := h
    rfl
  obtain ⟨d, wd, k, rfl, ⟨a, rfl, ha⟩, hd, k1, k2, q⟩ := h
  obtain ⟨tm, hm⟩ := Z.most
  refine ⟨_, pss_cons (ps_if (PW.pt (pw_or (pt_not (pt_val (pe_callB call_isi (by rfl) Z.isi (by decide +kernel) (pa_cons (pv 0) (pa_cons (pe_bltn (v := .ty "tuple") (by rfl) Z.tuple (by decide +kernel) rfl) pa_nil)))))
        (pw_or (pt_cmpR op_ne (pe_callB call_len_seq (by rfl) Z.len PySem.boot_len (pa_cons (pv 0) pa_nil)) pe_int (nomark _))
          (pw_or1 (pt_not (pt_val (pe_callB call_isi (by rfl) Z.isi (by decide +kernel) (pa_cons (pe_ix ix_tup (pv 0) pe_int (fun _ _ => rfl)) (pa_cons (pe_bltn (v := .ty "str") (by rfl) Z.str (by decide +kernel) rfl) pa_nil)))))))))
      (pss_one ps_never) pss_nil)
    (pss_one (ps_ret (pe_and (pe_cmpR op_in_seq (pe_ix ix_tup (pv 0) pe_int (fun _ _ => rfl)) (pe_tup (pa_cons pe_str (pa_cons pe_str (pa_cons pe_str pa_nil)))) (by rfl))
      (pe_one (pe_cal C hr (pa_cons (pe_ix ix_tup (pv 0) pe_int (fun _ _ => rfl)) (pa_cons pe_int (pa_cons (pe_glob (v := .int 6) (by rfl) hm ⟨_, rfl⟩) pa_nil)))))))), ?_⟩
  refine ⟨_, rfl, _, _, _, _, true, rfl, .ty _, .base (.tup ha), kit_ty (by decide +kernel), _, rfl, iteF ?_⟩
  refine ⟨_, rfl, a, _, rfl, .inr (SqT.of ha), rfl, _, rfl, iteF ?_⟩
  refine ⟨_, rfl, a, _, _, _, rfl, rfl, SqT.of ha, rfl, _, _, _, _, true, rfl, .ty _, .base (.str wd), kit_ty (by decide +kernel), _, rfl, iteF ?_⟩
  refine ⟨_, rfl, a, _, _, _, rfl, rfl, SqT.of ha, rfl, small3, fun p np => ?_⟩
  have s1 := same_new np (.tup [.str "ask", .str "in", .str "out"])
  have ha1 := s1 _ _ ha
  refine ⟨p, _, rfl, .inr (SqT.of upd_same), rfl, rfl, _, rfl, iteY ?_ ?_⟩
  · rcases hd with e | e | e <;> subst e <;> decide +kernel
  exact ⟨_, rfl, a, _, _, _, rfl, rfl, SqT.of ha1, rfl, k, 1, 6, rfl, k1, k2, q _ s1⟩
def spPoss : Sp := fun vs H Q _ => ∃ (v d : V) (wd : Str) (t : T) (k : Int), vs = [v, d] ∧ TreeAt H v t ∧ WT t ∧ DeedAt H d wd k ∧ Poss t wd k ∧ ∀ H', Same H H' → Q (.bl true) H'
theorem sc68 : FnScope ["shape", "deed"] ["shape", "deed"] (defScope (top 68)) := ⟨rfl, rfl, rfl, by decide +kernel, rfl, by decide +kernel, by decide +kernel⟩
theorem c_poss (D : Def K mg 68 "is_possible" ["shape", "deed"]) (C : Cal P w K mg base "keys_of" ["shape"] 8 (spKeys 7)) : Cal P w K mg base "is_possible" ["shape", "deed"] 9 spPoss := by
  refine D.cal sc68 (fun vs H Q E h => ?_) (fun f cdv A outer s H vs Q E hr h => ?_)
  · obtain ⟨_, _, _, _, _, rfl, _⟩ := h
    rfl
  obtain ⟨v, d, wd, t, k, rfl, ht, hw, ⟨a, rfl, ha⟩, hp, q⟩ := h
  refine ⟨_, pss_one (ps_ret (pe_cmpR op_eq (pe_cmpR op_in_seq (pe_ix ix_tup (pv 1) pe_int (fun _ _ => rfl)) (pe_cal C hr (pa_cons (pv 0) pa_nil)) (by rfl)) (pe_cmpR op_ne (pe_ix ix_tup (pv 1) pe_int (fun _ _ => rfl)) pe_str (nomark _)) (nomark _))), ?_⟩
  refine ⟨_, rfl, a, _, _, _, rfl, rfl, SqT.of ha, rfl, _, rfl, v, t, rfl, ht, hw, Nat.lt_succ_of_le hw.ht, fun p H1 s1 _ e1 => ?_⟩
  have ha1 := s1 _ _ ha
  refine ⟨p, _, rfl, .inl (SqL.of e1), rfl, flat_ints _, _, rfl, a, _, _, _, rfl, rfl, SqT.of ha1, rfl, rfl, rfl, ?_⟩
  have e : decide (V.bl (if false = true then !inV (.int k) (t.keys.map V.int) else inV (.int k) (t.keys.map V.int)) = V.bl (!decide (V.str wd = V.str "in"))) = true := by
    rw [if_neg (by decide), inV_int]
    refine decide_eq_true (congrArg V.bl ?_)
    rcases hp with ⟨z, zk, _⟩ | ⟨z, zk⟩
    · rw [str_eq z, decide_eq_false zk]
      rfl
    · have ne : wd ≠ "in" := by
        rcases z with z | z <;> rw [z] <;> decide +kernel
      rw [strN_ne ne, decide_eq_true zk]
  show Q (V.bl _) H1
  rw [e]
  exact q _ s1
def spNeedDeed : Sp := fun vs H Q _ => ∃ (v d : V) (wd : Str) (t : T) (k : Int), vs = [v, d] ∧ TreeAt H v t ∧ WT t ∧ DeedAt H d wd k ∧ Poss t wd k ∧ ∀ H', Same H H' → Q .non H'
theorem sc69 : FnScope ["shape", "value"] ["shape", "value"] (defScope (top 69)) := ⟨rfl, rfl, rfl, by decide +kernel, rfl, by decide +kernel, by decide +kernel⟩
theorem Poss.word {t : T} {wd : Str} {k : Int} (h : Poss t wd k) (hw : WT t) : (wd = "ask" ∨ wd = "in" ∨ wd = "out") ∧ 1 ≤ k ∧ k ≤ 6 := by
  rcases h with ⟨z, _, a, b⟩ | ⟨z, zk⟩
  · exact ⟨.inr (.inl z), a, b⟩
  · have := T.Bt.mem hw zk
    exact ⟨z.elim .inl fun z => .inr (.inr z), this.1, this.2⟩
theorem c_need_deed (D : Def K mg 69 "need_deed" ["shape", "value"]) (C1 : Cal P w K mg base "is_deed" ["value"] 2 spDeed) (C2 : Cal P w K mg base "is_possible" ["shape", "deed"] 9 spPoss) : Cal P w K mg base "need_deed" ["shape", "value"] 10 spNeedDeed := by
  refine D.cal sc69 (fun vs H Q E h => ?_) (fun f cdv A outer s H vs Q E hr h => ?_)
  · obtain ⟨_, _, _, _, _, rfl, _⟩ := h
    rfl
  obtain ⟨v, d, wd, t, k, rfl, ht, hw, hd, hp, q⟩ := h
  obtain ⟨z1, z2, z3⟩ := hp.word hw
  refine ⟨_, pss_one (ps_if (PW.pt (pw_or (pt_not (pt_val (pe_cal C1 hr (pa_cons (pv 1) pa_nil)))) (pw_or1 (pt_not (pt_val (pe_cal C2 hr (pa_cons (pv 0) (pa_cons (pv 1) pa_nil)))))))) (pss_one ps_never) pss_nil), ?_⟩
  exact ⟨_, rfl, d, wd, k, rfl, hd, z1, z2, z3, fun H1 s1 => ⟨_, rfl, iteF ⟨_, rfl, _, rfl, v, d, wd, t, k, rfl, ht.mono (tkS s1), hw, hd.mono (tkS s1), hp, fun H2 s2 => ⟨_, rfl, iteF (q _ (s1.trans s2))⟩⟩⟩⟩
theorem sc70 : FnScope ["rule", "shape", "deed"] ["rule", "shape", "deed"] (defScope (top 70)) := ⟨rfl, rfl, rfl, by decide +kernel, rfl, by decide +kernel, by decide +kernel⟩
theorem c_after (D : Def K mg 70 "after" ["rule", "shape", "deed"]) (C1 : Cal P w K mg base "need_rule" ["value"] 2 spNeedRule) (C2 : Cal P w K mg base "need_shape" ["value"] 10 spNeedShape) (C3 : Cal P w K mg base "is_kept" ["rule", "shape"] 1 spKept)
    (C4 : Cal P w K mg base "need_deed" ["shape", "value"] 10 spNeedDeed) (C5 : Cal P w K mg base "behind" ["rule", "shape", "deed"] 18 spAfter) : Cal P w K mg base "after" ["rule", "shape", "deed"] 19 spAfter := by
  refine D.cal sc70 (fun vs H Q E h => ?_) (fun f cdv A outer s H vs Q E hr h => ?_)
  · obtain ⟨_, _, _, _, _, _, _, rfl, _⟩ := h
    rfl
  obtain ⟨r, v, d, nm, wd, t, k, rfl, hR, hn, ht, hw, hd, hp, q⟩ := h
  refine ⟨_, pss_cons (ps_expr (pe_cal C1 hr (pa_cons (pv 0) pa_nil))) (pss_cons (ps_expr (pe_cal C2 hr (pa_cons (pv 1) pa_nil)))
    (pss_cons (ps_if (pt_not (pt_val (pe_cal C3 hr (pa_cons (pv 0) (pa_cons (pv 1) pa_nil))))) (pss_one ps_never) pss_nil)
    (pss_cons (ps_expr (pe_cal C4 hr (pa_cons (pv 1) (pa_cons (pv 2) pa_nil))))
    (pss_one (ps_ret (pe_cal C5 hr (pa_cons (pv 0) (pa_cons (pv 1) (pa_cons (pv 2) pa_nil))))))))), ?_⟩
  refine ⟨_, rfl, r, nm, rfl, hR, hn, fun H1 s1 => ⟨_, rfl, v, t, rfl, ht.mono (tkS s1), hw, fun H2 s2 => ?_⟩⟩
  have s12 := s1.trans s2
  refine ⟨_, rfl, _, rfl, r, v, nm, rfl, hR.mono (tkS s12), hn, fun H3 s3 => ⟨_, rfl, iteF ?_⟩⟩
  have s13 := s12.trans s3
  refine ⟨_, rfl, _, rfl, v, d, wd, t, k, rfl, ht.mono (tkS s13), hw, hd.mono (tkS s13), hp, fun H4 s4 => ?_⟩
  have s14 := s13.trans s4
  exact ⟨_, rfl, _, rfl, _, rfl, r, v, d, nm, wd, t, k, rfl, hR.mono (tkS s14), hn, ht.mono (tkS s14), hw, hd.mono (tkS s14), hp, fun v5 H5 s5 h5 => q _ _ (s14.trans s5) h5⟩
end
end Tt

/-! TtL1 -/
namespace Tt
open PySem PySem.Spec PyProof.Rows L2
open T (nd lf)
/-! ### the town: all else that is tracked stays -/
def But (a : Addr) (H H' : Hp) : Prop := ∀ b o, b ≠ a → H b = some o → H' b = some o
theorem But.of {a : Addr} {H H' : Hp} (h : Same H H') : But a H H' := fun b o _ e => h b o e
theorem But.trans {a : Addr} {H H1 H2 : Hp} (h : But a H H1) (h' : But a H1 H2) : But a H H2 := fun b o n e => h' b o n (h b o n e)
theorem But.upd {a : Addr} {H : Hp} (o : HO) : But a H (upd H a o) := fun b u n e => by rw [upd_ne n]; exact e
theorem But.tk {a : Addr} {H H' : Hp} (h : But a H H') {xs : List V} (e : H a = some (.lst xs)) : TupK H H' := fun b ys q => h b _ (ne_of q e (by intro z; cases z)) q
/-- the town at a -/
def Town (a : Addr) (H : Hp) : Prop := ∃ i j : Int, 0 ≤ i ∧ H a = some (.lst [.int i, .int j])
theorem Town.mono {a : Addr} {H H' : Hp} (h : Same H H') : Town a H → Town a H' := fun ⟨i, j, z, e⟩ => ⟨i, j, z, h _ _ e⟩
theorem Town.tk {a : Addr} {H H' : Hp} (t : Town a H) (h : But a H H') : TupK H H' := by
  obtain ⟨_, _, _, e⟩ := t
  exact h.tk e
theorem Town.ne {a b : Addr} {H : Hp} (t : Town a H) (h : H b = none) : b ≠ a := fun e => by
  obtain ⟨_, _, _, q⟩ := t
  rw [e, q] at h
  cases h
/-- the script, that is not the town -/
def Scr (K : PySem.W.Frag) (H : Hp) (T s : Addr) (ns : List Int) : Prop := (s ≠ T ∧ Rd H s (.lst (ns.map V.int))) ∨
  ∃ (o : Obj) (its : Array Value) (n : Nat), K.lookup s = some o ∧ o.cls = .type "list" ∧ o.dict = none ∧ o.data = .seq its n ∧ its.size ≤ sizeLine ∧ Vals (ns.map V.int) its.toList
theorem Scr.sq {K : PySem.W.Frag} {H : Hp} {T s : Addr} {ns : List Int} (h : Scr K H T s ns) : SqL K H s (ns.map V.int) := h.elim (fun z => .inl z.2) .inr
theorem Scr.mono {K : PySem.W.Frag} {H H' : Hp} {T s : Addr} {ns : List Int} (b : But T H H') (h : Scr K H T s ns) : Scr K H' T s ns := by
  rcases h with ⟨n, z⟩ | z
  · refine .inl ⟨n, ?_⟩
    rcases z with z | ⟨o, z⟩
    · exact .inl (b _ _ n z)
    · exact .inr ⟨o, b _ _ n z⟩
  · exact .inr z
/-! ### lists of pdI against [] -/
def pdI : List Int → List PyData
  | [] => []
  | n :: ns => .int n :: pdI ns
theorem pdI_dp {K : PySem.W.Frag} {H : Hp} : ∀ ns : List Int, DpAll K H (ns.map V.int) (pdI ns)
  | [] => .nil
  | n :: ns => .cons (.int n) (pdI_dp ns)
theorem pdI_lay : ∀ ns : List Int, PyData.canLayAll0 (pdI ns) = true
  | [] => by simp [pdI, PyData.canLayAll0]
  | n :: ns => by
    have := pdI_lay ns
    simp [pdI, PyData.canLayAll0, PyData.canLay0, this]
theorem pdI_dep : ∀ ns : List Int, PyData.depthAll (pdI ns) = 0
  | [] => by simp [pdI, PyData.depthAll]
  | n :: ns => by
    have := pdI_dep ns
    simp [pdI, PyData.depthAll, PyData.depth, this]
theorem pdI_shaped (ns : List Int) : SeqAt.shaped (.list (pdI ns)) = true := by
  have a := pdI_lay ns
  have b := pdI_dep ns
  refine Bool.and_eq_true_iff.mpr ⟨by simp [PyData.canLay0, a], decide_eq_true ?_⟩
  simp [PyData.depth, b]
theorem pdI_nil : ∀ ns : List Int, PyData.eqv (.list (pdI ns)) (.list (pdI [])) = ns.isEmpty
  | [] => by simp [pdI, PyData.eqv, PyData.eqvAll]
  | n :: ns => by simp [pdI, PyData.eqv, PyData.eqvAll]
section
variable {X : Cx}
def rEqNil (K : PySem.W.Frag) : R2 := fun x y H Q => ∃ (p q : Addr) (ns : List Int), x = .ref p ∧ y = .ref q ∧ SqL K H p (ns.map V.int) ∧ SqL K H q [] ∧ Q (.bl ns.isEmpty) H
def rNeNil (K : PySem.W.Frag) : R2 := fun x y H Q => ∃ (p q : Addr) (ns : List Int), x = .ref p ∧ y = .ref q ∧ SqL K H p (ns.map V.int) ∧ SqL K H q [] ∧ Q (.bl (!ns.isEmpty)) H
theorem op_eqNil (hu : X.A.units + 64 < cLine) : OpR X (compareOp .Eq) (rEqNil X.K) := by
  intro pins s σ H x y v u Q I rx ry h
  obtain ⟨p, q, ns, rfl, rfl, h1, h2, z⟩ := h
  exact op_eqD hu pins s σ H _ _ v u Q I rx ry ⟨.list (pdI ns), .list (pdI []), .lst h1 (pdI_dp ns), .lst h2 .nil, pdI_shaped ns, pdI_shaped [], by rw [pdI_nil]; exact z⟩
theorem op_neNil (hu : X.A.units + 64 < cLine) : OpR X (compareOp .NotEq) (rNeNil X.K) := by
  intro pins s σ H x y v u Q I rx ry h
  obtain ⟨p, q, ns, rfl, rfl, h1, h2, z⟩ := h
  exact op_neD hu pins s σ H _ _ v u Q I rx ry ⟨.list (pdI ns), .list (pdI []), .lst h1 (pdI_dp ns), .lst h2 .nil, pdI_shaped ns, pdI_shaped [], by rw [pdI_nil]; exact z⟩
/-- xs[k] for xs[k] += .. -/
def rGetL (K : PySem.W.Frag) : V → V → Hp → VK → Prop := fun x y H Q => ∃ p xs k v, x = .ref p ∧ y = .int k ∧ SqL K H p xs ∧ 0 ≤ k ∧ k < 2 ^ 63 ∧ xs[k.toNat]? = some v ∧ Q v H
theorem get_list : PGet X (rGetL X.K) := by
  intro pins s σ H o i ov iv Q I ro ri h
  obtain ⟨p, xs, k, v, rfl, rfl, hq, h0, h1, hx, q⟩ := h
  cases ro
  obtain ⟨t, rfl⟩ := ri
  obtain ⟨its, r, pl, hz⟩ := I.list hq
  obtain ⟨u, eu, ru⟩ := r.get hx
  exact wpAny_getItem_list pl.isList h0 h1 (by simpa using eu) ⟨v, H, I, ru, q⟩
end
theorem and_if {c X Y : Prop} [Decidable c] (h : Y) (h2 : c → Y → X) : if c then X else Y := ite2 (fun z => h2 z h) fun _ => h
theorem fm0 (a : Int) {b : Int} (h : 0 < b) : 0 ≤ a.fmod b := by
  rw [Int.fmod_eq_emod_of_nonneg a (by omega)]
  exact Int.emod_nonneg a (by omega)
theorem fm1 (a : Int) {b : Int} (h : 0 < b) : a.fmod b < b := by
  rw [Int.fmod_eq_emod_of_nonneg a (by omega)]
  exact Int.emod_lt_of_pos a h
section
variable {P : Program} {w : World} {K : PySem.W.Frag} {mg : Str → Option Value} {base : Heap}
/-- a number below many; only the town changes -/
def spDraw (K : PySem.W.Frag) : Sp := fun vs H Q _ => ∃ (s a : Addr) (ns : List Int) (m : Int), vs = [.ref s, .ref a, .int m] ∧ Scr K H a s ns ∧ Town a H ∧ 0 < m ∧ m < 1000 ∧ ∀ r H', 0 ≤ r → r < m → But a H H' → Town a H' → Q (.int r) H'
theorem sc72 : FnScope ["_law_script", "_law_town", "_law_many", "_law_one", "_law_at", "_law_mixed"] ["_law_script", "_law_town", "_law_many"] (defScope (top 72)) := ⟨rfl, rfl, rfl, by decide +kernel, rfl, by decide +kernel, by decide +kernel⟩
theorem c_draw (D : Def K mg 72 "_law_draw" ["_law_script", "_law_town", "_law_many"]) (Z : Txt mg) : Cal P w K mg base "_law_draw" ["_law_script", "_law_town", "_law_many"] 1 (spDraw K) := by
  refine D.cal sc72 (fun vs H Q E h => ?_) (fun f cdv A outer s0 H vs Q E hr h => ?_)
  · obtain ⟨_, _, _, _, rfl, _⟩ := h
    rfl
  obtain ⟨s, a, ns, m, rfl, hs, ⟨i, j, i0, ha⟩, m0, m1, q⟩ := h
  have md : m ≠ 0 ∧ m.natAbs < 1073741824 := ⟨by omega, by omega⟩
  refine ⟨_, pss_cons (ps_if (pt_cmpR op_gt (pe_ix ix_list (pv 1) pe_int (fun _ _ => rfl)) pe_int (nomark _))
      (pss_cons (ps_set (i := 3) sc72.nd rfl (Or.inl rfl) (pe_op op_modN (pe_ix ix_list (pv 1) pe_int (fun _ _ => rfl)) (pv 2)))
      (pss_cons (ps_asg (pe_op op_fdivN (pe_ix ix_list (pv 1) pe_int (fun _ _ => rfl)) (pv 2)) (pg_sub (pv 1) pe_int set_list))
      (pss_one (ps_ret (pv 3))))) pss_nil)
    (pss_cons (ps_set (i := 4) sc72.nd rfl (Or.inl rfl) (pe_ix ix_list (pv 1) pe_int (fun _ _ => rfl)))
    (pss_cons (ps_augS (pv 1) pe_int get_list pe_int ip_add set_list)
    (pss_cons (ps_if (pt_cmpR (op_eqNil hr.units) (pv 0) (pe_lst pa_nil) (nomark _)) (pss_one (ps_ret (pe_op op_modN (pv 4) (pv 2)))) pss_nil)
    (pss_cons (ps_if (PW.pt (pw_and (pt_cmpR op_lt (pv 4) (pe_callB call_len_seq (by rfl) Z.len PySem.boot_len (pa_cons (pv 0) pa_nil)) (nomark _)) (pw_and1 (pt_cmpR op_ge (pe_ix ix_list (pv 0) (pv 4) (fun _ _ => rfl)) (pe_op op_pow pe_int pe_int) (nomark _)))))
      (pss_cons (ps_asg (pe_op op_modN (pe_op op_fdivN (pe_ix ix_list (pv 0) (pv 4) (fun _ _ => rfl)) (pv 2)) (pe_op op_mulW (pe_op op_pow pe_int pe_int) (pe_op op_pow pe_int pe_int))) (pg_sub (pv 1) pe_int set_list))
      (pss_one (ps_ret (pe_op op_modN (pe_ix ix_list (pv 0) (pv 4) (fun _ _ => rfl)) (pv 2))))) pss_nil)
    (pss_cons (ps_set (i := 5) sc72.nd rfl (Or.inl rfl) (pe_op op_modN (pe_op op_add (pe_op op_add (pe_op op_mul (pe_ix ix_list (pv 0) (pe_op op_modN (pv 4) (pe_callB call_len_seq (by rfl) Z.len PySem.boot_len (pa_cons (pv 0) pa_nil))) (fun _ _ => rfl)) pe_int) (pe_op op_mul pe_int (pv 4))) pe_int) pe_int))
    (pss_one (ps_ret (pe_op op_modN (pe_op op_modN (pe_op op_modN (pe_op op_pow (pv 5) pe_int) pe_int) pe_int) (pv 2))))))))), ?_⟩
  refine ⟨_, rfl, a, _, _, _, rfl, rfl, SqL.of ha, rfl, _, _, rfl, rfl, _, rfl, ite2 (fun c => ?_) (fun c => ?_)⟩
  · refine ⟨_, rfl, a, _, _, _, rfl, rfl, SqL.of ha, rfl, _, rfl, _, _, rfl, rfl, md.1, ?_⟩
    refine ⟨_, rfl, a, _, _, _, rfl, rfl, SqL.of ha, rfl, _, rfl, _, _, rfl, rfl, md, ?_⟩
    refine ⟨_, rfl, a, _, _, _, rfl, rfl, ha, rfl, ?_⟩
    exact ⟨_, rfl, q _ _ (fm0 _ m0) (fm1 _ m0) (But.upd _) ⟨i, _, i0, upd_same⟩⟩
  refine ⟨_, rfl, a, _, _, _, rfl, rfl, SqL.of ha, rfl, ?_⟩
  refine ⟨_, rfl, a, _, _, _, rfl, rfl, SqL.of ha, by decide, by decide, rfl, _, _, rfl, rfl, a, _, _, _, rfl, rfl, ha, rfl, ?_⟩
  have b1 : But a H (upd H a (.lst [.int (i + 1), .int j])) := But.upd _
  have t1 : (upd H a (.lst [.int (i + 1), .int j])) a = some (.lst [.int (i + 1), .int j]) := upd_same
  refine ⟨_, rfl, Nat.zero_le _, fun p np => ?_⟩
  have sp := same_new np (.lst [])
  have b2 := b1.trans (But.of sp)
  have t2 := sp _ _ t1
  have hs2 := hs.mono b2
  refine ⟨s, p, ns, rfl, rfl, hs2.sq, SqL.of upd_same, _, rfl, ?_⟩
  have i1 : 0 ≤ i + 1 := by omega
  cases ns with
  | nil => exact iteT ⟨_, rfl, _, rfl, _, _, rfl, rfl, md.1, q _ _ (fm0 _ m0) (fm1 _ m0) b2 ⟨_, _, i1, t2⟩⟩
  | cons n ns =>
  have lz : 0 < (((n :: ns).map V.int).length : Int) := by
    rw [List.length_map, List.length_cons]
    omega
  have pick : ∀ z : Int, 0 ≤ z → z < (((n :: ns).map V.int).length : Int) → ∃ v, atI ((n :: ns).map V.int) z = some (.int v) := fun z z0 z1 => by
    have zn : z.toNat < (n :: ns).length := by
      rw [List.length_map] at z1
      omega
    exact ⟨_, at_of (j := z.toNat) (by omega) (by rw [List.getElem?_map, List.getElem?_eq_getElem zn]; rfl)⟩
  refine iteF ⟨_, rfl, _, rfl, s, _, rfl, .inl hs2.sq, _, _, rfl, rfl, _, rfl, and_if ?_ (fun c1 tail => ?_)⟩
  · obtain ⟨v, hv⟩ := pick (i.fmod (((n :: ns).map V.int).length : Int)) (fm0 _ lz) (fm1 _ lz)
    refine iteF ⟨_, rfl, _, rfl, _, rfl, s, _, rfl, .inl hs2.sq, _, _, rfl, rfl, by show (((n :: ns).map V.int).length : Int) ≠ 0; omega, s, _, _, _, rfl, rfl, hs2.sq, hv, _, _, rfl, rfl, .inr ⟨by decide, by decide⟩, _, rfl, _, _, rfl, rfl, .inl ⟨by decide, by decide⟩, _, _, rfl, rfl, _, _, rfl, rfl, _, _, rfl, rfl, by show (2147483647 : Int) ≠ 0; decide, ?_⟩
    have g0 := fm0 (v * 1103515245 + 7919 * i + 12345) (b := 2147483647) (by decide)
    have g1 := fm1 (v * 1103515245 + 7919 * i + 12345) (b := 2147483647) (by decide)
    refine ⟨_, rfl, _, _, rfl, rfl, ⟨by decide, by decide, by show ((v * 1103515245 + 7919 * i + 12345).fmod 2147483647).natAbs < 18446744073709551616; omega⟩, _, _, rfl, rfl, by show (2147483647 : Int) ≠ 0; decide, _, _, rfl, rfl, by show (999983 : Int) ≠ 0; decide, _, rfl, _, _, rfl, rfl, md.1, ?_⟩
    exact q _ _ (fm0 _ m0) (fm1 _ m0) b2 ⟨_, _, i1, t2⟩
  · have c1 : i < (((n :: ns).map V.int).length : Int) := of_decide_eq_true c1
    obtain ⟨v, hv⟩ := pick i i0 c1
    refine ⟨_, rfl, _, rfl, s, _, _, _, rfl, rfl, hs2.sq, hv, _, _, rfl, rfl, ⟨by decide, by decide, by decide⟩, _, _, rfl, rfl, _, rfl, ite2 (fun c2 => ?_) (fun c2 => tail)⟩
    refine ⟨_, rfl, _, rfl, s, _, _, _, rfl, rfl, hs2.sq, hv, _, rfl, _, _, rfl, rfl, md, _, _, rfl, rfl, ⟨by decide, by decide, by decide⟩, _, _, rfl, rfl, ⟨by decide, by decide, by decide⟩, _, _, rfl, rfl, wide_mul (a := 300) (b := 300) (by decide +kernel) (by decide +kernel) (by decide) (by decide) (by decide), _, _, rfl, rfl, by show (10 ^ (60 : Int).toNat * 10 ^ (60 : Int).toNat : Int) ≠ 0; decide +kernel, ?_⟩
    refine ⟨_, rfl, a, _, _, _, rfl, rfl, t2, rfl, ?_⟩
    have b3 := b2.trans (But.upd (a := a) (H := upd (upd H a (.lst [.int (i + 1), .int j])) p (.lst [])) (.lst [.int (i + 1), .int ((v.fdiv m).fmod (10 ^ (60 : Int).toNat * 10 ^ (60 : Int).toNat))]))
    have hs3 := hs.mono b3
    exact ⟨_, rfl, _, rfl, s, _, _, _, rfl, rfl, hs3.sq, hv, _, rfl, _, _, rfl, rfl, md.1, q _ _ (fm0 _ m0) (fm1 _ m0) b3 ⟨_, _, i1, upd_same⟩⟩
end
end Tt

/-! TtL2 -/
namespace Tt
open PySem PySem.Spec PyProof.Rows L2
open T (nd lf)
section
variable {P : Program} {w : World} {K : PySem.W.Frag} {mg : Str → Option Value} {base : Heap}
/-- some item of a list -/
def spPick (K : PySem.W.Frag) : Sp := fun vs H Q _ => ∃ (s a l : Addr) (ns : List Int) (xs : List V), vs = [.ref s, .ref a, .ref l] ∧ Scr K H a s ns ∧ Town a H ∧ l ≠ a ∧ H l = some (.lst xs) ∧ 0 < xs.length ∧ xs.length < 1000 ∧
  ∀ (i : Nat) v H', xs[i]? = some v → But a H H' → Town a H' → Q v H'
theorem sc73 : FnScope ["_law_script", "_law_town", "_law_some"] ["_law_script", "_law_town", "_law_some"] (defScope (top 73)) := ⟨rfl, rfl, rfl, by decide +kernel, rfl, by decide +kernel, by decide +kernel⟩
theorem c_pick (D : Def K mg 73 "_law_pick" ["_law_script", "_law_town", "_law_some"]) (Z : Txt mg) (C : Cal P w K mg base "_law_draw" ["_law_script", "_law_town", "_law_many"] 1 (spDraw K)) : Cal P w K mg base "_law_pick" ["_law_script", "_law_town", "_law_some"] 2 (spPick K) := by
  refine D.cal sc73 (fun vs H Q E h => ?_) (fun f cdv A outer s0 H vs Q E hr h => ?_)
  · obtain ⟨_, _, _, _, _, rfl, _⟩ := h
    rfl
  obtain ⟨s, a, l, ns, xs, rfl, hs, ha, hla, hl, l0, l1, q⟩ := h
  refine ⟨_, pss_one (ps_ret (pe_ix ix_list (pv 2) (pe_cal C hr (pa_cons (pv 0) (pa_cons (pv 1) (pa_cons (pe_callB call_len_seq (by rfl) Z.len PySem.boot_len (pa_cons (pv 2) pa_nil)) pa_nil)))) (fun _ _ => rfl))), ?_⟩
  refine ⟨_, rfl, _, rfl, _, rfl, _, rfl, l, _, rfl, .inl (SqL.of hl), s, a, ns, _, rfl, hs, ha, by omega, by omega, fun r H1 r0 r1 b1 t1 => ?_⟩
  have rn : r.toNat < xs.length := by omega
  exact ⟨l, xs, r, xs[r.toNat], rfl, rfl, SqL.of (b1 _ _ hla hl), at_of (j := r.toNat) (by omega) (List.getElem?_eq_getElem rn), q r.toNat _ _ (List.getElem?_eq_getElem rn) b1 t1⟩
theorem sc74 : FnScope ["_law_shape"] ["_law_shape"] (defScope (top 74)) := ⟨rfl, rfl, rfl, by decide +kernel, rfl, by decide +kernel, by decide +kernel⟩
theorem c_lkeys1 {n : Nat} (D : Def K mg 74 "_law_keys" ["_law_shape"]) (R : Cal P w K mg base "_law_keys" ["_law_shape"] (n + 1) (spKeys n)) : Cal P w K mg base "_law_keys" ["_law_shape"] (n + 2) (spKeys (n + 1)) := by
  refine D.cal sc74 (fun vs H Q E h => ?_) (fun f cdv A outer s H vs Q E hr h => ?_)
  · obtain ⟨x, t, rfl, _⟩ := h
    rfl
  obtain ⟨x, t, rfl, ht, hw, hn, q⟩ := h
  refine ⟨_, pss_one (ps_ret (pe_ifExp (pt_cmpR (op_neLf hr.units) (pv 0) pe_unit (nomark _))
    (pe_op op_cat (pe_op op_cat (pe_cal R hr (pa_cons (pe_ix ix_tup (pv 0) pe_int (fun _ _ => rfl)) pa_nil)) (pe_lst (pa_cons (pe_ix ix_tup (pv 0) pe_int (fun _ _ => rfl)) pa_nil)))
      (pe_cal R hr (pa_cons (pe_ix ix_tup (pv 0) pe_int (fun _ _ => rfl)) pa_nil))) (pe_lst pa_nil))), ?_⟩
  refine ⟨_, rfl, fun e H1 s1 he => ⟨t, ht.mono (tkS s1), hw, he, _, rfl, ?_⟩⟩
  cases t with
  | lf =>
    refine iteF ⟨Nat.zero_le _, fun p hp => ?_⟩
    exact q p _ (s1.trans (same_new hp _)) (s1.free hp) upd_same
  | nd l k r =>
    obtain ⟨a, vl, vr, rfl, ha, hl, hrr⟩ := ht.mono (tkS s1)
    have len := hw.len
    rw [len_nd] at len
    refine iteT ⟨_, rfl, a, _, _, _, rfl, rfl, SqT.of ha, rfl, vl, l, rfl, hl, hw.l, Nat.lt_of_lt_of_le ht_l (Nat.le_of_lt_succ hn), fun p2 H2 s2 _ e2 => ?_⟩
    have ha2 := s2 _ _ ha
    refine ⟨_, rfl, a, _, _, _, rfl, rfl, SqT.of ha2, rfl, small1, fun p3 n3 => ?_⟩
    have s3 : Same H2 (upd H2 p3 (.lst [.int k])) := same_new n3 _
    refine ⟨p2, p3, _, _, rfl, rfl, s3 _ _ e2, upd_same, by rw [List.length_map, List.length_singleton]; exact line_of (by omega), fun p4 n4 => ?_⟩
    have s4 := same_new n4 (.lst (l.keys.map V.int ++ [.int k]))
    have ha4 := s4 _ _ (s3 _ _ ha2)
    have hr4 := hrr.mono ((tkS s2).trans ((tkS s3).trans (tkS s4)))
    refine ⟨_, rfl, a, _, _, _, rfl, rfl, SqT.of ha4, rfl, vr, r, rfl, hr4, hw.r, Nat.lt_of_lt_of_le ht_r (Nat.le_of_lt_succ hn), fun p5 H5 s5 _ e5 => ?_⟩
    refine ⟨p4, p5, _, _, rfl, rfl, s5 _ _ upd_same, e5, by rw [List.length_append, List.length_map, List.length_map, List.length_singleton]; exact line_of (by omega), fun p6 n6 => ?_⟩
    refine q p6 _ (s1.trans (s2.trans (s3.trans (s4.trans (s5.trans (same_new n6 _)))))) ((s1.trans (s2.trans (s3.trans (s4.trans s5)))).free n6) ?_
    rw [upd_same]
    show some (HO.lst ((l.keys.map V.int ++ [.int k]) ++ r.keys.map V.int)) = some (.lst ((l.keys ++ k :: r.keys).map V.int))
    rw [List.map_append, List.map_cons, List.append_assoc]
    rfl
theorem c_lkeys (D : Def K mg 74 "_law_keys" ["_law_shape"]) : ∀ n : Nat, Cal P w K mg base "_law_keys" ["_law_shape"] (n + 1) (spKeys n)
  | 0 => (D.zero fun vs H Q E h => by
      obtain ⟨_, _, _, _, _, h, _⟩ := h
      exact absurd h (Nat.not_lt_zero _)).up (Nat.zero_le _)
  | n + 1 => c_lkeys1 D (c_lkeys D n)
/-- some list of at most n ints -/
def spPath (n : Nat) : Sp := fun vs H Q _ => ∃ (x : V) (t : T) (k : Int), vs = [x, .int k] ∧ TreeAt H x t ∧ WT t ∧ t.ht < n ∧ ∀ p H' xs, Same H H' → xs.length ≤ t.ht → H' p = some (.lst xs) → Q (.ref p) H'
theorem sc76 : FnScope ["_law_shape", "_law_key"] ["_law_shape", "_law_key"] (defScope (top 76)) := ⟨rfl, rfl, rfl, by decide +kernel, rfl, by decide +kernel, by decide +kernel⟩
theorem c_path1 {n : Nat} (D : Def K mg 76 "_law_path" ["_law_shape", "_law_key"]) (R : Cal P w K mg base "_law_path" ["_law_shape", "_law_key"] (n + 1) (spPath n)) : Cal P w K mg base "_law_path" ["_law_shape", "_law_key"] (n + 2) (spPath (n + 1)) := by
  refine D.cal sc76 (fun vs H Q E h => ?_) (fun f cdv A outer s H vs Q E hr h => ?_)
  · obtain ⟨x, t, _, rfl, _⟩ := h
    rfl
  obtain ⟨x, t, k, rfl, ht, hw, hn, q⟩ := h
  refine ⟨_, pss_cons (ps_if (pt_cmpR (op_eqLf hr.units) (pv 0) pe_unit (nomark _)) (pss_one (ps_ret (pe_lst pa_nil))) pss_nil)
    (pss_cons (ps_if (pt_cmpR op_eq (pe_ix ix_tup (pv 0) pe_int (fun _ _ => rfl)) (pv 1) (nomark _)) (pss_one (ps_ret (pe_lst (pa_cons (pv 1) pa_nil)))) pss_nil)
    (pss_one (ps_ret (pe_op op_cat (pe_lst (pa_cons (pe_ix ix_tup (pv 0) pe_int (fun _ _ => rfl)) pa_nil))
      (pe_cal R hr (pa_cons (pe_ifExp (pt_cmpR op_lt (pv 1) (pe_ix ix_tup (pv 0) pe_int (fun _ _ => rfl)) (nomark _)) (pe_ix ix_tup (pv 0) pe_int (fun _ _ => rfl)) (pe_ix ix_tup (pv 0) pe_int (fun _ _ => rfl))) (pa_cons (pv 1) pa_nil))))))), ?_⟩
  refine ⟨_, rfl, fun e H1 s1 he => ⟨t, ht.mono (tkS s1), hw, he, _, rfl, ?_⟩⟩
  cases t with
  | lf =>
    refine iteT ⟨Nat.zero_le _, fun p hp => ?_⟩
    exact q p _ _ (s1.trans (same_new hp _)) (Nat.zero_le _) upd_same
  | nd l y r =>
    obtain ⟨a, vl, vr, rfl, ha, hl, hrr⟩ := ht.mono (tkS s1)
    have ht6 := hw.ht
    have hL : l.ht < (nd l y r).ht := ht_l
    have hR : r.ht < (nd l y r).ht := ht_r
    refine iteF ⟨_, rfl, a, _, _, _, rfl, rfl, SqT.of ha, rfl, _, rfl, rfl, _, rfl, ite2 (fun c => ?_) (fun c => ?_)⟩
    · refine ⟨_, rfl, small1, fun p np => ?_⟩
      exact q p _ _ (s1.trans (same_new np _)) (by show 1 ≤ _; omega) upd_same
    refine ⟨_, rfl, a, _, _, _, rfl, rfl, SqT.of ha, rfl, small1, fun p np => ?_⟩
    have s2 := same_new np (.lst [.int y])
    have ha2 := s2 _ _ ha
    refine ⟨_, rfl, _, rfl, a, _, _, _, rfl, rfl, SqT.of ha2, rfl, _, _, rfl, rfl, _, rfl, ite2 (fun d => ?_) (fun d => ?_)⟩
    · refine ⟨_, rfl, a, _, _, _, rfl, rfl, SqT.of ha2, rfl, _, rfl, vl, l, k, rfl, hl.mono (tkS s2), hw.l, Nat.lt_of_lt_of_le ht_l (Nat.le_of_lt_succ hn), fun p3 H3 xs s3 l3 e3 => ?_⟩
      refine ⟨p, p3, _, _, rfl, rfl, s3 _ _ upd_same, e3, by rw [List.length_singleton]; exact line_of (by omega), fun p4 n4 => ?_⟩
      exact q p4 _ _ (s1.trans (s2.trans (s3.trans (same_new n4 _)))) (by rw [List.length_append, List.length_singleton]; omega) upd_same
    · refine ⟨_, rfl, a, _, _, _, rfl, rfl, SqT.of ha2, rfl, _, rfl, vr, r, k, rfl, hrr.mono (tkS s2), hw.r, Nat.lt_of_lt_of_le ht_r (Nat.le_of_lt_succ hn), fun p3 H3 xs s3 l3 e3 => ?_⟩
      refine ⟨p, p3, _, _, rfl, rfl, s3 _ _ upd_same, e3, by rw [List.length_singleton]; exact line_of (by omega), fun p4 n4 => ?_⟩
      exact q p4 _ _ (s1.trans (s2.trans (s3.trans (same_new n4 _)))) (by rw [List.length_append, List.length_singleton]; omega) upd_same
theorem c_path (D : Def K mg 76 "_law_path" ["_law_shape", "_law_key"]) : ∀ n : Nat, Cal P w K mg base "_law_path" ["_law_shape", "_law_key"] (n + 1) (spPath n)
  | 0 => (D.zero fun vs H Q E h => by
      obtain ⟨_, _, _, _, _, _, h, _⟩ := h
      exact absurd h (Nat.not_lt_zero _)).up (Nat.zero_le _)
  | n + 1 => c_path1 D (c_path D n)
/-- the keys, each ahead of those below it -/
def spOrder (n : Nat) : Sp := fun vs H Q _ => ∃ (x : V) (t : T), vs = [x] ∧ TreeAt H x t ∧ WT t ∧ t.ht < n ∧ ∀ p H', Same H H' → H' p = some (.lst ((order t).map V.int)) → Q (.ref p) H'
theorem sc79 : FnScope ["_law_shape"] ["_law_shape"] (defScope (top 79)) := ⟨rfl, rfl, rfl, by decide +kernel, rfl, by decide +kernel, by decide +kernel⟩
theorem c_order1 {n : Nat} (D : Def K mg 79 "_law_order" ["_law_shape"]) (R : Cal P w K mg base "_law_order" ["_law_shape"] (n + 1) (spOrder n)) : Cal P w K mg base "_law_order" ["_law_shape"] (n + 2) (spOrder (n + 1)) := by
  refine D.cal sc79 (fun vs H Q E h => ?_) (fun f cdv A outer s H vs Q E hr h => ?_)
  · obtain ⟨x, t, rfl, _⟩ := h
    rfl
  obtain ⟨x, t, rfl, ht, hw, hn, q⟩ := h
  refine ⟨_, pss_one (ps_ret (pe_ifExp (pt_cmpR (op_neLf hr.units) (pv 0) pe_unit (nomark _))
    (pe_op op_cat (pe_op op_cat (pe_lst (pa_cons (pe_ix ix_tup (pv 0) pe_int (fun _ _ => rfl)) pa_nil)) (pe_cal R hr (pa_cons (pe_ix ix_tup (pv 0) pe_int (fun _ _ => rfl)) pa_nil)))
      (pe_cal R hr (pa_cons (pe_ix ix_tup (pv 0) pe_int (fun _ _ => rfl)) pa_nil))) (pe_lst pa_nil))), ?_⟩
  refine ⟨_, rfl, fun e H1 s1 he => ⟨t, ht.mono (tkS s1), hw, he, _, rfl, ?_⟩⟩
  cases t with
  | lf =>
    refine iteF ⟨Nat.zero_le _, fun p hp => ?_⟩
    exact q p _ (s1.trans (same_new hp _)) upd_same
  | nd l k r =>
    obtain ⟨a, vl, vr, rfl, ha, hl, hrr⟩ := ht.mono (tkS s1)
    have len := hw.len
    rw [len_nd] at len
    have ll := order_len l
    have lr := order_len r
    refine iteT ⟨_, rfl, a, _, _, _, rfl, rfl, SqT.of ha, rfl, small1, fun p2 n2 => ?_⟩
    have s2 := same_new n2 (.lst [.int k])
    have ha2 := s2 _ _ ha
    refine ⟨_, rfl, a, _, _, _, rfl, rfl, SqT.of ha2, rfl, vl, l, rfl, hl.mono (tkS s2), hw.l, Nat.lt_of_lt_of_le ht_l (Nat.le_of_lt_succ hn), fun p3 H3 s3 e3 => ?_⟩
    have ha3 := s3 _ _ ha2
    refine ⟨p2, p3, _, _, rfl, rfl, s3 _ _ upd_same, e3, by rw [List.length_map, List.length_singleton]; exact line_of (by omega), fun p4 n4 => ?_⟩
    have s4 := same_new n4 (.lst ([.int k] ++ (order l).map V.int))
    have ha4 := s4 _ _ ha3
    have hr4 := hrr.mono ((tkS s2).trans ((tkS s3).trans (tkS s4)))
    refine ⟨_, rfl, a, _, _, _, rfl, rfl, SqT.of ha4, rfl, vr, r, rfl, hr4, hw.r, Nat.lt_of_lt_of_le ht_r (Nat.le_of_lt_succ hn), fun p5 H5 s5 e5 => ?_⟩
    refine ⟨p4, p5, _, _, rfl, rfl, s5 _ _ upd_same, e5, by rw [List.length_append, List.length_map, List.length_map, List.length_singleton]; exact line_of (by omega), fun p6 n6 => ?_⟩
    refine q p6 _ (s1.trans (s2.trans (s3.trans (s4.trans (s5.trans (same_new n6 _)))))) ?_
    rw [upd_same]
    show some (HO.lst (([.int k] ++ (order l).map V.int) ++ (order r).map V.int)) = some (.lst ((k :: (order l ++ order r)).map V.int))
    rw [List.map_cons, List.map_append, List.append_assoc]
    rfl
theorem c_order (D : Def K mg 79 "_law_order" ["_law_shape"]) : ∀ n : Nat, Cal P w K mg base "_law_order" ["_law_shape"] (n + 1) (spOrder n)
  | 0 => (D.zero fun vs H Q E h => by
      obtain ⟨_, _, _, _, _, h, _⟩ := h
      exact absurd h (Nat.not_lt_zero _)).up (Nat.zero_le _)
  | n + 1 => c_order1 D (c_order D n)
end
end Tt

/-! TtL3 -/
namespace Tt
open PySem PySem.Spec PyProof.Rows L2
open T (nd lf)
theorem filt_take {xs : List Int} {p : Int → Bool} {i : Nat} {y : Int} (h : xs[i]? = some y) : (xs.take (i + 1)).filter p = (xs.take i).filter p ++ (if p y = true then [y] else []) := by
  rw [List.take_add_one, h, List.filter_append]
  congr 1
  by_cases c : p y = true
  · rw [if_pos c]
    exact List.filter_cons_of_pos c
  · rw [if_neg c]
    exact List.filter_cons_of_neg c
theorem same_upd {H H' : Hp} {D : Addr} (h : Same H H') (n : H D = none) (o : HO) : Same H (upd H' D o) := fun b u q => by
  rw [upd_ne (ne_of_none q n)]
  exact h b u q
theorem ints_at {xs : List Int} {i : Nat} {x : V} (h : (xs.map V.int)[i]? = some x) : ∃ y, x = .int y ∧ xs[i]? = some y := by
  rw [List.getElem?_map] at h
  cases e : xs[i]? with
  | none =>
    rw [e] at h
    cases h
  | some y =>
    rw [e] at h
    exact ⟨y, (Option.some.inj h).symm, rfl⟩
theorem filt_le (xs : List Int) (p : Int → Bool) (i : Nat) : (((xs.take i).filter p).map V.int).length ≤ xs.length := by
  rw [List.length_map]
  exact Nat.le_trans (List.length_filter_le _ _) (by rw [List.length_take]; omega)
theorem filt_lt {x : Int} {xs : List Int} {p : Int → Bool} (h : p x = false) : ((x :: xs).filter p).length ≤ xs.length := by
  rw [List.filter_cons_of_neg (by rw [h]; decide)]
  exact List.length_filter_le _ _
section
variable {P : Program} {w : World} {K : PySem.W.Frag} {mg : Str → Option Value} {base : Heap}
def spPlant (n : Nat) : Sp := fun vs H Q _ => ∃ (l : Addr) (ns : List Int) (t : T), vs = [.ref l] ∧ H l = some (.lst (ns.map V.int)) ∧ Plants ns t ∧ ns.length < n ∧ ns.length ≤ 100 ∧ ∀ v H', Same H H' → TreeAt H' v t → Q v H'
theorem sc78 : FnScope ["_law_keys_here", "_law_top", "_law_key"] ["_law_keys_here"] (defScope (top 78)) := ⟨rfl, rfl, rfl, by decide +kernel, rfl, by decide +kernel, by decide +kernel⟩
theorem c_plant1 {n : Nat} (D : Def K mg 78 "_law_plant" ["_law_keys_here"]) (R : Cal P w K mg base "_law_plant" ["_law_keys_here"] (n + 1) (spPlant n)) : Cal P w K mg base "_law_plant" ["_law_keys_here"] (n + 2) (spPlant (n + 1)) := by
  refine D.cal sc78 (fun vs H Q E h => ?_) (fun f cdv A outer s H vs Q E hr h => ?_)
  · obtain ⟨x, t, _, rfl, _⟩ := h
    rfl
  obtain ⟨l, ns, t, rfl, hl, hp, hn, h100, q⟩ := h
  refine ⟨_, pss_cons (ps_if (pt_cmpR (op_eqNil hr.units) (pv 0) (pe_lst pa_nil) (nomark _)) (pss_one (ps_ret pe_unit)) pss_nil)
    (pss_cons (ps_set (i := 1) sc78.nd rfl (Or.inr rfl) (pe_ix ix_list (pv 0) pe_int (fun _ _ => rfl)))
    (pss_one (ps_ret (pe_tup (pa_cons (pe_cal R hr (pa_cons (pe_lc (own := [("_law_key", 2)]) (g := gName 2) (by rfl) sc78.nd (pi_list (pv 0)) (blkOk_by (own := [("_law_key", 2)]) (N := ["_law_keys_here", "_law_top", "_law_key"]) (sc := defScope (top 78)) (by decide +kernel))
          (fun _ _ _ _ _ => pg_name (i := 2) sc78.nd rfl (Or.inl rfl)) (fun _ _ _ _ _ => pts_one (pt_cmpR op_lt (pv 2) (pv 1) (nomark _))) (fun _ _ _ _ _ => pv 2)) pa_nil))
      (pa_cons (pv 1)
      (pa_cons (pe_cal R hr (pa_cons (pe_lc (own := [("_law_key", 2)]) (g := gName 2) (by rfl) sc78.nd (pi_list (pv 0)) (blkOk_by (own := [("_law_key", 2)]) (N := ["_law_keys_here", "_law_top", "_law_key"]) (sc := defScope (top 78)) (by decide +kernel))
          (fun _ _ _ _ _ => pg_name (i := 2) sc78.nd rfl (Or.inl rfl)) (fun _ _ _ _ _ => pts_one (pt_cmpR op_gt (pv 2) (pv 1) (nomark _))) (fun _ _ _ _ _ => pv 2)) pa_nil))
        pa_nil))))))), ?_⟩
  refine ⟨_, rfl, Nat.zero_le _, fun p np => ?_⟩
  have s1 := same_new np (.lst [])
  have hl1 := s1 _ _ hl
  refine ⟨l, p, ns, rfl, rfl, SqL.of hl1, SqL.of upd_same, _, rfl, ?_⟩
  cases hp with
  | nil => exact iteT fun v H2 s2 h2 => q _ _ (s1.trans s2) h2
  | @cons x xs a b ha hb =>
  refine iteF ⟨_, rfl, l, _, _, .int x, rfl, rfl, SqL.of hl1, at_of (j := 0) rfl rfl, ?_⟩
  refine ⟨_, rfl, l, rfl, ⟨_, SqL.of hl1⟩, fun D1 nD1 => lc_list (K := K) (a := l) (xs := (x :: xs).map V.int) (fun i H' => Same (upd H p (.lst [])) H' ∧ H' D1 = some (.lst ((((x :: xs).take i).filter fun k => decide (k < x)).map V.int)))
    ⟨same_new nD1 _, upd_same⟩ (fun i H' _ z => SqL.of (z.1 _ _ hl1)) ?_ ?_⟩
  · rintro i x0 H' hx ⟨sm, hD⟩
    obtain ⟨y, rfl, hy⟩ := ints_at hx
    refine ⟨rfl, _, rfl, _, rfl, _, _, rfl, rfl, _, rfl, ite2 (fun c => ?_) (fun c => ?_)⟩
    · refine ⟨_, rfl, _, hD, Nat.lt_of_le_of_lt (filt_le _ _ _) (small1000 (by omega)), same_upd sm nD1 _, ?_⟩
      rw [upd_same, filt_take hy, if_pos c, List.map_append]
      rfl
    · refine ⟨sm, ?_⟩
      rw [hD, filt_take hy, if_neg c, List.append_nil]
  rintro H2 ⟨s2, hD1⟩
  rw [List.length_map, List.take_length] at hD1
  have l1 : ((x :: xs).filter fun k => decide (k < x)).length ≤ xs.length := filt_lt (decide_eq_false (Int.lt_irrefl x))
  have l2 : ((x :: xs).filter fun k => decide (x < k)).length ≤ xs.length := filt_lt (decide_eq_false (Int.lt_irrefl x))
  rw [List.length_cons] at hn h100
  refine ⟨D1, _, a, rfl, hD1, ha, by omega, by omega, fun v3 H3 s3 h3 => ?_⟩
  have hl3 := s3 _ _ (s2 _ _ hl1)
  refine ⟨_, rfl, _, rfl, l, rfl, ⟨_, SqL.of hl3⟩, fun D2 nD2 => lc_list (K := K) (a := l) (xs := (x :: xs).map V.int) (fun i H' => Same H3 H' ∧ H' D2 = some (.lst ((((x :: xs).take i).filter fun k => decide (x < k)).map V.int)))
    ⟨same_new nD2 _, upd_same⟩ (fun i H' _ z => SqL.of (z.1 _ _ hl3)) ?_ ?_⟩
  · rintro i x0 H' hx ⟨sm, hD⟩
    obtain ⟨y, rfl, hy⟩ := ints_at hx
    refine ⟨rfl, _, rfl, _, rfl, _, _, rfl, rfl, _, rfl, ite2 (fun c => ?_) (fun c => ?_)⟩
    · refine ⟨_, rfl, _, hD, Nat.lt_of_le_of_lt (filt_le _ _ _) (small1000 (by rw [List.length_cons]; omega)), same_upd sm nD2 _, ?_⟩
      rw [upd_same, filt_take hy, if_pos c, List.map_append]
      rfl
    · refine ⟨sm, ?_⟩
      rw [hD, filt_take hy, if_neg c, List.append_nil]
  rintro H4 ⟨s4, hD2⟩
  rw [List.length_map, List.take_length] at hD2
  refine ⟨D2, _, b, rfl, hD2, hb, by omega, by omega, fun v5 H5 s5 h5 => ?_⟩
  refine ⟨small3, fun p6 n6 => ?_⟩
  exact q _ _ (s1.trans (s2.trans (s3.trans (s4.trans (s5.trans (same_new n6 _)))))) (tree_new n6 (h3.mono (tkS (s4.trans s5))) h5)
theorem c_plant (D : Def K mg 78 "_law_plant" ["_law_keys_here"]) : ∀ n : Nat, Cal P w K mg base "_law_plant" ["_law_keys_here"] (n + 1) (spPlant n)
  | 0 => (D.zero fun vs H Q E h => by
      obtain ⟨_, _, _, _, _, _, h, _⟩ := h
      exact absurd h (Nat.not_lt_zero _)).up (Nat.zero_le _)
  | n + 1 => c_plant1 D (c_plant D n)
end
end Tt

/-! TtL4 -/
namespace Tt
open PySem PySem.Spec PyProof.Rows L2
open T (nd lf)
section
variable {P : Program} {w : World} {K : PySem.W.Frag} {mg : Str → Option Value} {base : Heap}
theorem sc80 : FnScope ["_law_shape", "_law_key", "_law_left", "_law_top", "_law_right"] ["_law_shape", "_law_key"] (defScope (top 80)) := ⟨rfl, rfl, rfl, by decide +kernel, rfl, by decide +kernel, by decide +kernel⟩
theorem c_lturn1 {n : Nat} (D : Def K mg 80 "_law_turn" ["_law_shape", "_law_key"]) (R : Cal P w K mg base "_law_turn" ["_law_shape", "_law_key"] (n + 1) (spTurn n)) : Cal P w K mg base "_law_turn" ["_law_shape", "_law_key"] (n + 2) (spTurn (n + 1)) := by
  refine D.cal sc80 (fun vs H Q E h => ?_) (fun f cdv A outer s H vs Q E hr h => ?_)
  · obtain ⟨v, _, _, rfl, _⟩ := h
    rfl
  obtain ⟨v, t, k, rfl, ht, hw, hk, hne, hn, q⟩ := h
  cases t with
  | lf => cases hk
  | nd l x r =>
  obtain ⟨p, vl, vr, rfl, hp, hl, hrr⟩ := id ht
  have ne : x ≠ k := hne
  refine ⟨_, pss_cons (ps_asg (pv 0) (pg_tup rfl (pgs_cons (pg_name (i := 2) sc80.nd rfl (.inl rfl)) (pgs_cons (pg_name (i := 3) sc80.nd rfl (.inl rfl)) (pgs_cons (pg_name (i := 4) sc80.nd rfl (.inl rfl)) pgs_nil)))))
    (pss_cons (ps_if (PW.pt (pw_and (pt_cmpR (op_neLf hr.units) (pv 2) pe_unit (nomark _)) (pw_and1 (pt_cmpR op_eq (pe_ix ix_tup (pv 2) pe_int (fun _ _ => rfl)) (pv 1) (nomark _)))))
      (pss_one (ps_ret (pe_tup (pa_cons (pe_ix ix_tup (pv 2) pe_int (fun _ _ => rfl)) (pa_cons (pv 1) (pa_cons (pe_tup (pa_cons (pe_ix ix_tup (pv 2) pe_int (fun _ _ => rfl)) (pa_cons (pv 3) (pa_cons (pv 4) pa_nil)))) pa_nil)))))) pss_nil)
    (pss_cons (ps_if (PW.pt (pw_and (pt_cmpR (op_neLf hr.units) (pv 4) pe_unit (nomark _)) (pw_and1 (pt_cmpR op_eq (pe_ix ix_tup (pv 4) pe_int (fun _ _ => rfl)) (pv 1) (nomark _)))))
      (pss_one (ps_ret (pe_tup (pa_cons (pe_tup (pa_cons (pv 2) (pa_cons (pv 3) (pa_cons (pe_ix ix_tup (pv 4) pe_int (fun _ _ => rfl)) pa_nil)))) (pa_cons (pv 1) (pa_cons (pe_ix ix_tup (pv 4) pe_int (fun _ _ => rfl)) pa_nil)))))) pss_nil)
    (pss_cons (ps_if (pt_cmpR op_lt (pv 1) (pv 3) (nomark _)) (pss_one (ps_ret (pe_tup (pa_cons (pe_cal R hr (pa_cons (pv 2) (pa_cons (pv 1) pa_nil))) (pa_cons (pv 3) (pa_cons (pv 4) pa_nil)))))) pss_nil)
    (pss_one (ps_ret (pe_tup (pa_cons (pv 2) (pa_cons (pv 3) (pa_cons (pe_cal R hr (pa_cons (pv 4) (pa_cons (pv 1) pa_nil))) pa_nil))))))))), ?_⟩
  refine ⟨_, rfl, p, _, rfl, SqT.of hp, rfl, _, _, rfl, _, _, rfl, _, _, rfl, rfl, ?_⟩
  refine ⟨_, rfl, fun e1 H1 s1 he1 => ⟨l, hl.mono (tkS s1), hw.l, he1, _, rfl, ?_⟩⟩
  by_cases d1 : l.isLf = false ∧ l.tk = k
  · obtain ⟨c, d⟩ := d1
    cases l with
    | lf => cases c
    | nd a y b =>
    have d : y = k := d
    subst d
    have kx : y < x := hw.ltl (mem_nd.mpr (.inr (.inl rfl)))
    obtain ⟨p', va, vb, rfl, hp', ha, hb⟩ := hl.mono (tkS s1)
    have e : turn (nd (nd a y b) x r) y = nd a y (nd b x r) := by
      show (if y < x then (if y = y then lup (nd (nd a y b) x r) else _) else _) = _
      rw [if_pos kx, if_pos rfl]
      rfl
    rw [e] at q
    refine iteT ⟨_, rfl, p', _, _, _, rfl, rfl, SqT.of hp', rfl, _, rfl, rfl, _, rfl, iteY (decide_eq_true rfl) ?_⟩
    refine ⟨_, rfl, p', _, _, _, rfl, rfl, SqT.of hp', rfl, _, rfl, _, rfl, p', _, _, _, rfl, rfl, SqT.of hp', rfl, _, rfl, _, rfl, small3, fun p1 n1 => ⟨small3, fun p2 n2 => ?_⟩⟩
    have s2 := same_new n1 (.tup [vb, .int x, vr])
    exact q _ _ (s1.trans (s2.trans (same_new n2 _))) (tree_new n2 (ha.mono (tkS s2)) (tree_new n1 hb (hrr.mono (tkS s1))))
  refine and_if ?_ (fun c tail => ?_)
  rotate_left
  · cases l with
    | lf => cases c
    | nd a y b =>
    obtain ⟨p', va, vb, rfl, hp', ha, hb⟩ := hl.mono (tkS s1)
    exact ⟨_, rfl, p', _, _, _, rfl, rfl, SqT.of hp', rfl, _, rfl, rfl, _, rfl, ite2 (fun d => absurd ⟨rfl, int_inj d⟩ d1) (fun _ => tail)⟩
  have hr1 := hrr.mono (tkS s1)
  have hl1 := hl.mono (tkS s1)
  refine iteF ⟨_, rfl, fun e2 H2 s2 he2 => ⟨r, hr1.mono (tkS s2), hw.r, he2, _, rfl, ?_⟩⟩
  have s12 := s1.trans s2
  by_cases d2 : r.isLf = false ∧ r.tk = k
  · obtain ⟨c, d⟩ := d2
    cases r with
    | lf => cases c
    | nd a y b =>
    have d : y = k := d
    subst d
    have kx : x < y := hw.ltr (mem_nd.mpr (.inr (.inl rfl)))
    obtain ⟨p', va, vb, rfl, hp', ha, hb⟩ := hr1.mono (tkS s2)
    have e : turn (nd l x (nd a y b)) y = nd (nd l x a) y b := by
      show (if y < x then _ else (if y = y then rup (nd l x (nd a y b)) else _)) = _
      rw [if_neg (by omega), if_pos rfl]
      rfl
    rw [e] at q
    refine iteT ⟨_, rfl, p', _, _, _, rfl, rfl, SqT.of hp', rfl, _, rfl, rfl, _, rfl, iteY (decide_eq_true rfl) ?_⟩
    refine ⟨_, rfl, _, rfl, _, rfl, p', _, _, _, rfl, rfl, SqT.of hp', rfl, small3, fun p1 n1 => ?_⟩
    have s3 := same_new n1 (.tup [vl, .int x, va])
    have hp3 := s3 _ _ hp'
    refine ⟨_, rfl, _, rfl, p', _, _, _, rfl, rfl, SqT.of hp3, rfl, small3, fun p2 n2 => ?_⟩
    exact q _ _ (s12.trans (s3.trans (same_new n2 _))) (tree_new n2 (tree_new n1 (hl1.mono (tkS s2)) ha) (hb.mono (tkS s3)))
  refine and_if ?_ (fun c tail => ?_)
  rotate_left
  · cases r with
    | lf => cases c
    | nd a y b =>
    obtain ⟨p', va, vb, rfl, hp', ha, hb⟩ := hr1.mono (tkS s2)
    exact ⟨_, rfl, p', _, _, _, rfl, rfl, SqT.of hp', rfl, _, rfl, rfl, _, rfl, ite2 (fun d => absurd ⟨rfl, int_inj d⟩ d2) (fun _ => tail)⟩
  have hr2 := hr1.mono (tkS s2)
  have hl2 := hl1.mono (tkS s2)
  refine iteF ⟨_, rfl, _, rfl, _, _, rfl, rfl, _, rfl, ite2 (fun c => ?_) (fun c => ?_)⟩
  · have c : k < x := of_decide_eq_true c
    have ml := hw.inl hk c
    have lne : l.tk ≠ k := fun z => d1 ⟨by cases l with | lf => cases ml | nd a y b => rfl, z⟩
    have e : turn (nd l x r) k = nd (turn l k) x r := by
      show (if k < x then (if l.tk = k then _ else nd (turn l k) x r) else _) = _
      rw [if_pos c, if_neg lne]
    rw [e] at q
    refine ⟨_, rfl, _, rfl, _, l, k, rfl, hl2, hw.l, ml, lne, Nat.lt_of_lt_of_le ht_l (Nat.le_of_lt_succ hn), fun v3 H3 s3 h3 => ?_⟩
    refine ⟨_, rfl, _, rfl, small3, fun p4 n4 => ?_⟩
    exact q _ _ (s12.trans (s3.trans (same_new n4 _))) (tree_new n4 h3 (hr2.mono (tkS s3)))
  · have c : ¬ k < x := fun z => c (decide_eq_true z)
    have mr := hw.inr hk (by omega)
    have rne : r.tk ≠ k := fun z => d2 ⟨by cases r with | lf => cases mr | nd a y b => rfl, z⟩
    have e : turn (nd l x r) k = nd l x (turn r k) := by
      show (if k < x then _ else (if r.tk = k then _ else nd l x (turn r k))) = _
      rw [if_neg c, if_neg rne]
    rw [e] at q
    refine ⟨_, rfl, _, rfl, _, rfl, _, rfl, _, r, k, rfl, hr2, hw.r, mr, rne, Nat.lt_of_lt_of_le ht_r (Nat.le_of_lt_succ hn), fun v3 H3 s3 h3 => ?_⟩
    refine ⟨small3, fun p4 n4 => ?_⟩
    exact q _ _ (s12.trans (s3.trans (same_new n4 _))) (tree_new n4 (hl2.mono (tkS s3)) h3)
theorem c_lturn (D : Def K mg 80 "_law_turn" ["_law_shape", "_law_key"]) : ∀ n : Nat, Cal P w K mg base "_law_turn" ["_law_shape", "_law_key"] (n + 1) (spTurn n)
  | 0 => (D.zero fun vs H Q E h => by
      obtain ⟨_, _, _, _, _, _, _, _, h, _⟩ := h
      exact absurd h (Nat.not_lt_zero _)).up (Nat.zero_le _)
  | n + 1 => c_lturn1 D (c_lturn D n)
/-- a new leaf -/
def spLLeaf : Sp := fun vs H Q _ => ∃ (v : V) (t : T) (k : Int), vs = [v, .int k] ∧ TreeAt H v t ∧ WT t ∧ k ∉ t.keys ∧ ∀ v' H', Same H H' → TreeAt H' v' (wleaf t k) → Q v' H'
theorem sc81 : FnScope ["_law_shape", "_law_key"] ["_law_shape", "_law_key"] (defScope (top 81)) := ⟨rfl, rfl, rfl, by decide +kernel, rfl, by decide +kernel, by decide +kernel⟩
theorem c_lleaf (D : Def K mg 81 "_law_leaf" ["_law_shape", "_law_key"]) (C1 : Cal P w K mg base "_law_plant" ["_law_keys_here"] 9 (spPlant 8)) (C2 : Cal P w K mg base "_law_order" ["_law_shape"] 8 (spOrder 7)) : Cal P w K mg base "_law_leaf" ["_law_shape", "_law_key"] 10 spLLeaf := by
  refine D.cal sc81 (fun vs H Q E h => ?_) (fun f cdv A outer s H vs Q E hr h => ?_)
  · obtain ⟨v, _, _, rfl, _⟩ := h
    rfl
  obtain ⟨v, t, k, rfl, ht, hw, hk, q⟩ := h
  refine ⟨_, pss_one (ps_ret (pe_cal C1 hr (pa_cons (pe_op op_cat (pe_cal C2 hr (pa_cons (pv 0) pa_nil)) (pe_lst (pa_cons (pv 1) pa_nil))) pa_nil))), ?_⟩
  refine ⟨_, rfl, v, t, rfl, ht, hw, Nat.lt_succ_of_le hw.ht, fun p1 H1 s1 e1 => ?_⟩
  refine ⟨_, rfl, small1, fun p2 n2 => ?_⟩
  have s2 := same_new n2 (.lst [.int k])
  have len := hw.len
  have ol := order_len t
  refine ⟨p1, p2, _, _, rfl, rfl, s2 _ _ e1, upd_same, by rw [List.length_map, List.length_singleton]; exact line_of (by omega), fun p3 n3 => ?_⟩
  have s3 := same_new n3 (.lst ((order t).map V.int ++ [.int k]))
  refine ⟨p3, order t ++ [k], wleaf t k, rfl, ?_, plants_leaf hw hk, by rw [List.length_append, List.length_singleton]; omega, by rw [List.length_append, List.length_singleton]; omega, fun v4 H4 s4 h4 => q _ _ (s1.trans (s2.trans (s3.trans s4))) h4⟩
  rw [upd_same, List.map_append]
  rfl
/-- the part of a key -/
def spPart : Sp := fun vs H Q _ => ∃ (v : V) (t : T) (k : Int), vs = [v, .int k] ∧ TreeAt H v t ∧ WT t ∧ k ∈ t.keys ∧ ∀ v' H', Same H H' → TreeAt H' v' (part t k) → Q v' H'
theorem sc82 : FnScope ["_law_shape", "_law_key"] ["_law_shape", "_law_key"] (defScope (top 82)) := ⟨rfl, rfl, rfl, by decide +kernel, rfl, by decide +kernel, by decide +kernel⟩
theorem c_part (D : Def K mg 82 "_law_part" ["_law_shape", "_law_key"]) : Cal P w K mg base "_law_part" ["_law_shape", "_law_key"] 1 spPart := by
  refine D.cal sc82 (fun vs H Q E h => ?_) (fun f cdv A outer s H vs Q E hr h => ?_)
  · obtain ⟨v, _, _, rfl, _⟩ := h
    rfl
  obtain ⟨v, t, k, rfl, ht, hw, hk, q⟩ := h
  refine ⟨_, pss_cons (ps_while PassesOwn.never (pt_cmpR op_ne (pe_ix ix_tup (pv 0) pe_int (fun _ _ => rfl)) (pv 1) (nomark _))
      (pss_one (ps_set (i := 0) sc82.nd rfl (Or.inl rfl) (pe_ifExp (pt_cmpR op_lt (pv 1) (pe_ix ix_tup (pv 0) pe_int (fun _ _ => rfl)) (nomark _)) (pe_ix ix_tup (pv 0) pe_int (fun _ _ => rfl)) (pe_ix ix_tup (pv 0) pe_int (fun _ _ => rfl))))))
    (pss_one (ps_ret (pv 0))), ?_⟩
  refine ⟨fun m σ H1 => ∃ v1 t1, σ = [some v1, some (.int k)] ∧ Same H H1 ∧ TreeAt H1 v1 t1 ∧ WT t1 ∧ k ∈ t1.keys ∧ part t1 k = part t k ∧ m = t1.ht, ⟨t.ht, v, t, rfl, Same.refl _, ht, hw, hk, rfl, rfl⟩, ?_⟩
  rintro m σ H1 ⟨v1, t1, rfl, s1, h1, w1, k1, e1, rfl⟩
  cases t1 with
  | lf => cases k1
  | nd l x r =>
  obtain ⟨p, vl, vr, rfl, hp, hl, hrr⟩ := id h1
  refine ⟨_, rfl, p, _, _, _, rfl, rfl, SqT.of hp, rfl, _, rfl, rfl, _, rfl, ite2 (fun d => ?_) (fun d => ?_)⟩
  · have d : x ≠ k := fun e => by
      rw [e] at d
      simp at d
    refine ⟨fun σ' H' => ∃ m', m' < (nd l x r).ht ∧ ∃ v1 t1, σ' = [some v1, some (.int k)] ∧ Same H H' ∧ TreeAt H' v1 t1 ∧ WT t1 ∧ k ∈ t1.keys ∧ part t1 k = part t k ∧ m' = t1.ht, fun σ' H' z => z, ?_⟩
    refine ⟨_, rfl, _, rfl, p, _, _, _, rfl, rfl, SqT.of hp, rfl, _, _, rfl, rfl, _, rfl, ite2 (fun c => ?_) (fun c => ?_)⟩
    · have c : k < x := of_decide_eq_true c
      have e : part (nd l x r) k = part l k := by
        show (if x = k then _ else if k < x then part l k else _) = _
        rw [if_neg d, if_pos c]
      exact ⟨_, rfl, p, _, _, _, rfl, rfl, SqT.of hp, rfl, l.ht, ht_l, vl, l, rfl, s1, hl, w1.l, w1.inl k1 c, e.symm.trans e1, rfl⟩
    · have c : ¬ k < x := fun z => c (decide_eq_true z)
      have e : part (nd l x r) k = part r k := by
        show (if x = k then _ else if k < x then _ else part r k) = _
        rw [if_neg d, if_neg c]
      exact ⟨_, rfl, p, _, _, _, rfl, rfl, SqT.of hp, rfl, r.ht, ht_r, vr, r, rfl, s1, hrr, w1.r, w1.inr k1 (by omega), e.symm.trans e1, rfl⟩
  · have d : x = k := Decidable.byContradiction fun e => d (by
      rw [decide_eq_false (fun z => e (V.int.inj z))]
      rfl)
    have e : part (nd l x r) k = nd l x r := if_pos d
    refine ⟨_, rfl, ?_⟩
    rw [← e1, e] at q
    exact q _ _ s1 h1
/-- another part in the place of that of a key -/
def spPut (n : Nat) : Sp := fun vs H Q _ => ∃ (v u : V) (t p : T) (k : Int), vs = [v, .int k, u] ∧ TreeAt H v t ∧ WT t ∧ k ∈ t.keys ∧ TreeAt H u p ∧ t.ht < n ∧ ∀ v' H', Same H H' → TreeAt H' v' (put t k p) → Q v' H'
theorem sc83 : FnScope ["_law_shape", "_law_key", "_law_part_here"] ["_law_shape", "_law_key", "_law_part_here"] (defScope (top 83)) := ⟨rfl, rfl, rfl, by decide +kernel, rfl, by decide +kernel, by decide +kernel⟩
theorem c_put1 {n : Nat} (D : Def K mg 83 "_law_put" ["_law_shape", "_law_key", "_law_part_here"]) (R : Cal P w K mg base "_law_put" ["_law_shape", "_law_key", "_law_part_here"] (n + 1) (spPut n)) : Cal P w K mg base "_law_put" ["_law_shape", "_law_key", "_law_part_here"] (n + 2) (spPut (n + 1)) := by
  refine D.cal sc83 (fun vs H Q E h => ?_) (fun f cdv A outer s H vs Q E hr h => ?_)
  · obtain ⟨v, _, _, _, _, rfl, _⟩ := h
    rfl
  obtain ⟨v, u, t, pp, k, rfl, ht, hw, hk, hu, hn, q⟩ := h
  cases t with
  | lf => cases hk
  | nd l x r =>
  obtain ⟨p, vl, vr, rfl, hp, hl, hrr⟩ := id ht
  refine ⟨_, pss_cons (ps_if (pt_cmpR op_eq (pe_ix ix_tup (pv 0) pe_int (fun _ _ => rfl)) (pv 1) (nomark _)) (pss_one (ps_ret (pv 2))) pss_nil)
    (pss_cons (ps_if (pt_cmpR op_lt (pv 1) (pe_ix ix_tup (pv 0) pe_int (fun _ _ => rfl)) (nomark _))
      (pss_one (ps_ret (pe_tup (pa_cons (pe_cal R hr (pa_cons (pe_ix ix_tup (pv 0) pe_int (fun _ _ => rfl)) (pa_cons (pv 1) (pa_cons (pv 2) pa_nil)))) (pa_cons (pe_ix ix_tup (pv 0) pe_int (fun _ _ => rfl)) (pa_cons (pe_ix ix_tup (pv 0) pe_int (fun _ _ => rfl)) pa_nil)))))) pss_nil)
    (pss_one (ps_ret (pe_tup (pa_cons (pe_ix ix_tup (pv 0) pe_int (fun _ _ => rfl)) (pa_cons (pe_ix ix_tup (pv 0) pe_int (fun _ _ => rfl)) (pa_cons (pe_cal R hr (pa_cons (pe_ix ix_tup (pv 0) pe_int (fun _ _ => rfl)) (pa_cons (pv 1) (pa_cons (pv 2) pa_nil)))) pa_nil))))))), ?_⟩
  refine ⟨_, rfl, p, _, _, _, rfl, rfl, SqT.of hp, rfl, _, rfl, rfl, _, rfl, ite2 (fun d => ?_) (fun d => ?_)⟩
  · have e : put (nd l x r) k pp = pp := if_pos (int_inj d)
    rw [e] at q
    exact ⟨_, rfl, q _ _ (Same.refl _) hu⟩
  have d := int_ne d
  refine ⟨_, rfl, _, rfl, p, _, _, _, rfl, rfl, SqT.of hp, rfl, _, _, rfl, rfl, _, rfl, ite2 (fun c => ?_) (fun c => ?_)⟩
  · have c : k < x := of_decide_eq_true c
    have e : put (nd l x r) k pp = nd (put l k pp) x r := by
      show (if x = k then _ else if k < x then nd (put l k pp) x r else _) = _
      rw [if_neg d, if_pos c]
    rw [e] at q
    refine ⟨_, rfl, p, _, _, _, rfl, rfl, SqT.of hp, rfl, _, rfl, _, rfl, vl, u, l, pp, k, rfl, hl, hw.l, hw.inl hk c, hu, Nat.lt_of_lt_of_le ht_l (Nat.le_of_lt_succ hn), fun v2 H2 s2 h2 => ?_⟩
    have hp2 := s2 _ _ hp
    refine ⟨_, rfl, p, _, _, _, rfl, rfl, SqT.of hp2, rfl, _, rfl, p, _, _, _, rfl, rfl, SqT.of hp2, rfl, small3, fun p3 n3 => ?_⟩
    exact q _ _ (s2.trans (same_new n3 _)) (tree_new n3 h2 (hrr.mono (tkS s2)))
  · have c : ¬ k < x := fun z => c (decide_eq_true z)
    have e : put (nd l x r) k pp = nd l x (put r k pp) := by
      show (if x = k then _ else if k < x then _ else nd l x (put r k pp)) = _
      rw [if_neg d, if_neg c]
    rw [e] at q
    refine ⟨_, rfl, p, _, _, _, rfl, rfl, SqT.of hp, rfl, _, rfl, p, _, _, _, rfl, rfl, SqT.of hp, rfl, _, rfl, p, _, _, _, rfl, rfl, SqT.of hp, rfl, _, rfl, _, rfl, vr, u, r, pp, k, rfl, hrr, hw.r, hw.inr hk (by omega), hu, Nat.lt_of_lt_of_le ht_r (Nat.le_of_lt_succ hn), fun v2 H2 s2 h2 => ?_⟩
    refine ⟨small3, fun p3 n3 => ?_⟩
    exact q _ _ (s2.trans (same_new n3 _)) (tree_new n3 (hl.mono (tkS s2)) h2)
theorem c_put (D : Def K mg 83 "_law_put" ["_law_shape", "_law_key", "_law_part_here"]) : ∀ n : Nat, Cal P w K mg base "_law_put" ["_law_shape", "_law_key", "_law_part_here"] (n + 1) (spPut n)
  | 0 => (D.zero fun vs H Q E h => by
      obtain ⟨_, _, _, _, _, _, _, _, _, _, h, _⟩ := h
      exact absurd h (Nat.not_lt_zero _)).up (Nat.zero_le _)
  | n + 1 => c_put1 D (c_put D n)
end
end Tt

/-! TtL5 -/
namespace Tt
open PySem PySem.Spec PyProof.Rows L2
open T (nd lf)
section
variable {P : Program} {w : World} {K : PySem.W.Frag} {mg : Str → Option Value} {base : Heap}
/-- a pair: the shape without the key, some list -/
def spOut (n : Nat) : Sp := fun vs H Q _ => ∃ (v : V) (t : T) (k : Int), vs = [v, .int k] ∧ TreeAt H v t ∧ WT t ∧ k ∈ t.keys ∧ t.ht < n ∧ ∀ p x y H', Same H H' → H' p = some (.tup [x, y]) → TreeAt H' x (wout t k) → Q (.ref p) H'
theorem sc84 : FnScope ["_law_shape", "_law_key", "_law_left", "_law_top", "_law_right", "_law_above", "_law_new", "_law_own"] ["_law_shape", "_law_key"] (defScope (top 84)) := ⟨rfl, rfl, rfl, by decide +kernel, rfl, by decide +kernel, by decide +kernel⟩
theorem c_out1 {n : Nat} (hn7 : n ≤ 7) (D : Def K mg 84 "_law_out" ["_law_shape", "_law_key"]) (CPart : Cal P w K mg base "_law_part" ["_law_shape", "_law_key"] 1 spPart) (CPath : Cal P w K mg base "_law_path" ["_law_shape", "_law_key"] 8 (spPath 7))
    (CPut : Cal P w K mg base "_law_put" ["_law_shape", "_law_key", "_law_part_here"] 8 (spPut 7)) (CKeys : Cal P w K mg base "_law_keys" ["_law_shape"] 8 (spKeys 7)) (R : Cal P w K mg base "_law_out" ["_law_shape", "_law_key"] (n + 9) (spOut n)) :
    Cal P w K mg base "_law_out" ["_law_shape", "_law_key"] (n + 10) (spOut (n + 1)) := by
  refine D.cal sc84 (fun vs H Q E h => ?_) (fun f cdv A outer s H vs Q E hr h => ?_)
  · obtain ⟨v, _, _, rfl, _⟩ := h
    rfl
  obtain ⟨v, t, k, rfl, ht, hw, hk, hn, q⟩ := h
  obtain ⟨l, r, ep, wp, lp⟩ := part_nd hw hk
  have rp := put_rep hw hk
  rw [ep] at rp
  refine ⟨_, pss_cons (ps_asg (pe_cal CPart hr (pa_cons (pv 0) (pa_cons (pv 1) pa_nil))) (pg_tup rfl (pgs_cons (pg_name (i := 2) sc84.nd rfl (.inl rfl)) (pgs_cons (pg_name (i := 3) sc84.nd rfl (.inl rfl)) (pgs_cons (pg_name (i := 4) sc84.nd rfl (.inl rfl)) pgs_nil)))))
    (pss_cons (ps_set (i := 5) sc84.nd rfl (Or.inl rfl) (pe_slice sl_list (pe_cal CPath hr (pa_cons (pv 0) (pa_cons (pv 1) pa_nil))) po_none (po_some (pe_un un_neg pe_int))))
    (pss_cons (ps_if (PW.pt (pw_or (pt_cmpR (op_eqLf hr.units) (pv 2) pe_unit (nomark _)) (pw_or1 (pt_cmpR (op_eqLf hr.units) (pv 4) pe_unit (nomark _)))))
      (pss_one (ps_ret (pe_tup (pa_cons (pe_cal CPut hr (pa_cons (pv 0) (pa_cons (pv 1) (pa_cons (pe_ifExp (pt_cmpR (op_eqLf hr.units) (pv 4) pe_unit (nomark _)) (pv 2) (pv 4)) pa_nil)))) (pa_cons (pv 5) pa_nil))))) pss_nil)
    (pss_cons (ps_set (i := 6) sc84.nd rfl (Or.inl rfl) (pe_ix ix_list (pe_cal CKeys hr (pa_cons (pv 4) pa_nil)) pe_int (fun _ _ => rfl)))
    (pss_cons (ps_set (i := 7) sc84.nd rfl (Or.inl rfl) (pe_slice sl_list (pe_cal CPath hr (pa_cons (pv 4) (pa_cons (pv 6) pa_nil))) po_none (po_some (pe_un un_neg pe_int))))
    (pss_one (ps_ret (pe_tup (pa_cons (pe_cal CPut hr (pa_cons (pv 0) (pa_cons (pv 1) (pa_cons (pe_tup (pa_cons (pv 2) (pa_cons (pv 6) (pa_cons (pe_ix ix_tup (pe_cal R hr (pa_cons (pv 4) (pa_cons (pv 6) pa_nil))) pe_int (fun _ _ => rfl)) pa_nil)))) pa_nil))))
      (pa_cons (pe_op op_cat (pe_op op_cat (pv 5) (pe_lst (pa_cons (pv 6) pa_nil))) (pv 7)) pa_nil))))))))), ?_⟩
  refine ⟨_, rfl, _, rfl, v, t, k, rfl, ht, hw, hk, fun v1 H1 s1 h1 => ?_⟩
  rw [ep] at h1
  obtain ⟨p, vl, vr, rfl, hp, hl, hrr⟩ := h1
  refine ⟨p, _, rfl, SqT.of hp, rfl, _, _, rfl, _, _, rfl, _, _, rfl, rfl, ?_⟩
  refine ⟨_, rfl, _, rfl, v, t, k, rfl, ht.mono (tkS s1), hw, Nat.lt_succ_of_le hw.ht, fun p2 H2 xs s2 l2 e2 => ?_⟩
  refine ⟨_, rfl, _, rfl, p2, _, rfl, SqL.of e2, fun p3 n3 => ?_⟩
  have s3 := same_new n3 (.lst (cutV xs none (some (-1))))
  have s13 := s1.trans (s2.trans s3)
  have s23 := s2.trans s3
  have cl := cutV_length xs none (some (-1))
  have ht6 := hw.ht
  have hl3 := hl.mono (tkS s23)
  have hr3 := hrr.mono (tkS s23)
  generalize hH3 : upd H2 p3 (.lst (cutV xs none (some (-1)))) = H3 at s3 s13 s23 hl3 hr3
  have a3 : H3 p3 = some (.lst (cutV xs none (some (-1)))) := by
    rw [← hH3]
    exact upd_same
  have htt := hw.ht
  have hwl := wp.l
  have hwr := wp.r
  refine ⟨_, rfl, fun e4 H4 s4 he4 => ⟨l, hl3.mono (tkS s4), hwl, he4, _, rfl, ?_⟩⟩
  have key : ∀ (H5 : Hp) (s5 : Same H3 H5), r.isLf = true ∨ l.isLf = true → ∀ (Q2 : VK), (∀ v H', Same H5 H' → TreeAt H' v (wout t k) → Q2 v H') → ∃ v' u t' pp k', [v, V.int k, if r.isLf = true then vl else vr] = [v', V.int k', u] ∧ TreeAt H5 v' t' ∧ WT t' ∧ k' ∈ t'.keys ∧ TreeAt H5 u pp ∧ t'.ht < 7 ∧ ∀ v H', Same H5 H' → TreeAt H' v (put t' k' pp) → Q2 v H' := by
    intro H5 s5 hc Q2 q2
    refine ⟨v, _, t, rep (nd l k r), k, rfl, ht.mono (tkS (s13.trans s5)), hw, hk, ?_, Nat.lt_succ_of_le hw.ht, by rw [rp]; exact q2⟩
    show TreeAt H5 _ (if r.isLf = true then l else if l.isLf = true then r else _)
    by_cases c : r.isLf = true
    · rw [if_pos c, if_pos c]
      exact hl3.mono (tkS s5)
    · rw [if_neg c, if_neg c, if_pos (hc.resolve_left c)]
      exact hr3.mono (tkS s5)
  have branch : ∀ (H5 : Hp) (s5 : Same H3 H5), r.isLf = true ∨ l.isLf = true → ∀ v6 H6, Same H5 H6 → TreeAt H6 v6 (wout t k) → ∀ p7, H6 p7 = none → Q (.ref p7) (upd H6 p7 (.tup [v6, .ref p3])) := fun H5 s5 hc v6 H6 s6 h6 p7 n7 =>
    q p7 v6 _ _ (s13.trans (s5.trans (s6.trans (same_new n7 _)))) upd_same (h6.mono (tkS (same_new n7 _)))
  cases cl1 : l.isLf with
  | true =>
    refine iteT (iteT ?_)
    refine ⟨_, rfl, _, rfl, _, rfl, fun e5 H5 s5 he5 => ⟨r, hr3.mono (tkS (s4.trans s5)), hwr, he5, _, rfl, ?_⟩⟩
    have s45 := s4.trans s5
    have kk := key H5 s45 (.inr cl1)
    cases cr : r.isLf with
    | true =>
      rw [cr, if_pos rfl] at kk
      exact iteT ⟨_, rfl, kk _ fun v6 H6 s6 h6 => ⟨_, rfl, small2, branch H5 s45 (.inr cl1) v6 H6 s6 h6⟩⟩
    | false =>
      rw [cr, if_neg (by decide)] at kk
      exact iteF ⟨_, rfl, kk _ fun v6 H6 s6 h6 => ⟨_, rfl, small2, branch H5 s45 (.inr cl1) v6 H6 s6 h6⟩⟩
  | false =>
    refine iteF ⟨_, rfl, fun e5 H5 s5 he5 => ⟨r, hr3.mono (tkS (s4.trans s5)), hwr, he5, _, rfl, ?_⟩⟩
    have s45 := s4.trans s5
    cases cr : r.isLf with
    | true =>
      refine iteT ?_
      refine ⟨_, rfl, _, rfl, _, rfl, fun e6 H6 s6 he6 => ⟨r, hr3.mono (tkS (s45.trans s6)), hwr, he6, _, rfl, ?_⟩⟩
      have kk := key H6 (s45.trans s6) (.inl cr)
      rw [cr, if_pos rfl] at kk
      rw [cr]
      exact iteT ⟨_, rfl, kk _ fun v7 H7 s7 h7 => ⟨_, rfl, small2, branch H6 (s45.trans s6) (.inl cr) v7 H7 s7 h7⟩⟩
    | false =>
      have a5 := s45 _ _ a3
      have hl5 := hl3.mono (tkS s45)
      have hr5 := hr3.mono (tkS s45)
      have s15 := s13.trans s45
      obtain ⟨zs, hz⟩ := least_head cr
      refine iteF ⟨_, rfl, vr, r, rfl, hr5, hwr, Nat.lt_succ_of_le hwr.ht, fun p6 H6 s6 _ e6 => ?_⟩
      refine ⟨p6, _, _, .int (least r), rfl, rfl, SqL.of e6, at_of (j := 0) rfl (by rw [hz]; rfl), ?_⟩
      refine ⟨_, rfl, _, rfl, vr, r, least r, rfl, hr5.mono (tkS s6), hwr, Nat.lt_succ_of_le hwr.ht, fun p7 H7 ys s7 l7 e7 => ?_⟩
      refine ⟨_, rfl, _, rfl, p7, _, rfl, SqL.of e7, fun p8 n8 => ?_⟩
      have cy := cutV_length ys none (some (-1))
      have s8 := same_new n8 (.lst (cutV ys none (some (-1))))
      have s68 := s6.trans (s7.trans s8)
      have a8 : (upd H7 p8 (.lst (cutV ys none (some (-1))))) p8 = some (.lst (cutV ys none (some (-1)))) := upd_same
      generalize upd H7 p8 (.lst (cutV ys none (some (-1)))) = H8 at s8 s68 a8
      have s18 := s15.trans s68
      have hr6 := hwr.ht
      refine ⟨_, rfl, _, rfl, _, rfl, _, rfl, _, rfl, _, rfl, vr, r, least r, rfl, hr5.mono (tkS s68), hwr, least_mem cr, Nat.lt_of_lt_of_le ht_r (Nat.le_trans lp (Nat.le_of_lt_succ hn)), fun p9 x9 y9 H9 s9 e9 h9 => ?_⟩
      refine ⟨p9, _, _, x9, rfl, rfl, SqT.of e9, rfl, small3, fun pa na => ?_⟩
      have sa := same_new na (.tup [vl, .int (least r), x9])
      have ta := tree_new (l := l) (k := least r) na (hl5.mono (tkS (s68.trans s9))) h9
      have s1a := s18.trans (s9.trans sa)
      have erep : rep (nd l k r) = nd l (least r) (wout r (least r)) := by
        show (if r.isLf = true then l else if l.isLf = true then r else _) = _
        rw [if_neg (by rw [cr]; decide), if_neg (by rw [cl1]; decide)]
      rw [erep] at rp
      refine ⟨v, _, t, _, k, rfl, ht.mono (tkS s1a), hw, hk, ta, Nat.lt_succ_of_le hw.ht, fun vb Hb sb hb => ?_⟩
      rw [rp] at hb
      have s9b := s9.trans (sa.trans sb)
      have a3b := s9b _ _ (s68 _ _ a5)
      refine ⟨_, rfl, _, rfl, small1, fun pc nc => ?_⟩
      have sc := same_new nc (.lst [.int (least r)])
      refine ⟨p3, pc, _, _, rfl, rfl, sc _ _ a3b, upd_same, by rw [List.length_singleton]; exact line_of (by omega), fun pd nd' => ?_⟩
      have sd := same_new nd' (.lst (cutV xs none (some (-1)) ++ [.int (least r)]))
      refine ⟨_, rfl, pd, p8, _, _, rfl, rfl, upd_same, sd _ _ (sc _ _ (s9b _ _ a8)), by rw [List.length_append, List.length_singleton]; exact line_of (by omega), fun pe ne => ?_⟩
      refine ⟨small2, fun pf nf => ?_⟩
      have se := same_new ne (.lst ((cutV xs none (some (-1)) ++ [.int (least r)]) ++ cutV ys none (some (-1))))
      have sf := same_new nf (.tup [vb, .ref pe])
      have sbf := sc.trans (sd.trans (se.trans sf))
      exact q pf vb _ _ (s1a.trans (sb.trans sbf)) upd_same (hb.mono (tkS sbf))
theorem c_out (D : Def K mg 84 "_law_out" ["_law_shape", "_law_key"]) (CPart : Cal P w K mg base "_law_part" ["_law_shape", "_law_key"] 1 spPart) (CPath : Cal P w K mg base "_law_path" ["_law_shape", "_law_key"] 8 (spPath 7))
    (CPut : Cal P w K mg base "_law_put" ["_law_shape", "_law_key", "_law_part_here"] 8 (spPut 7)) (CKeys : Cal P w K mg base "_law_keys" ["_law_shape"] 8 (spKeys 7)) : ∀ n : Nat, n ≤ 7 → Cal P w K mg base "_law_out" ["_law_shape", "_law_key"] (n + 9) (spOut n)
  | 0, _ => (D.zero fun vs H Q E h => by
      obtain ⟨_, _, _, _, _, _, _, h, _⟩ := h
      exact absurd h (Nat.not_lt_zero _)).up (Nat.zero_le _)
  | n + 1, h => c_out1 (by omega) D CPart CPath CPut CKeys (c_out D CPart CPath CPut CKeys n (by omega))
end
end Tt

/-! TtL6 -/
namespace Tt
open PySem PySem.Spec PyProof.Rows L2
open T (nd lf)
section
variable {P : Program} {w : World} {K : PySem.W.Frag} {mg : Str → Option Value} {base : Heap}
def spLMoved : Sp := fun vs H Q _ => ∃ (v : V) (nm : Str) (t : T) (k : Int), vs = [.str nm, v, .int k] ∧ Nm nm ∧ TreeAt H v t ∧ WT t ∧ k ∈ t.keys ∧ ∀ v' H', Same H H' → TreeAt H' v' (mv nm t k) → Q v' H'
theorem sc100 : FnScope ["_law_name", "_law_shape", "_law_key"] ["_law_name", "_law_shape", "_law_key"] (defScope (top 100)) := ⟨rfl, rfl, rfl, by decide +kernel, rfl, by decide +kernel, by decide +kernel⟩
theorem c_lmoved (D : Def K mg 100 "_law_moved" ["_law_name", "_law_shape", "_law_key"]) (C : Cal P w K mg base "_law_turn" ["_law_shape", "_law_key"] 8 (spTurn 7)) : Cal P w K mg base "_law_moved" ["_law_name", "_law_shape", "_law_key"] 9 spLMoved := by
  refine D.cal sc100 (fun vs H Q E h => ?_) (fun f cdv A outer s H vs Q E hr h => ?_)
  · obtain ⟨_, _, _, _, rfl, _⟩ := h
    rfl
  obtain ⟨v, nm, t, k, rfl, hn, ht, hw, hk, q⟩ := h
  refine ⟨_, pss_cons (ps_if (pt_cmpR op_eq (pv 0) pe_str (nomark _)) pss_never pss_nil)
    (pss_cons (ps_if (PW.pt (pw_and (pt_cmpR op_eq (pv 0) pe_str (nomark _)) (pw_and1 (pt_cmpR op_ne (pe_ix ix_tup (pv 1) pe_int (fun _ _ => rfl)) (pv 2) (nomark _))))) (pss_one (ps_ret (pe_cal C hr (pa_cons (pv 1) (pa_cons (pv 2) pa_nil))))) pss_nil)
    (pss_cons (ps_while PassesOwn.never (PW.pt (pw_and (pt_cmpR op_eq (pv 0) pe_str (nomark _)) (pw_and1 (pt_cmpR op_ne (pe_ix ix_tup (pv 1) pe_int (fun _ _ => rfl)) (pv 2) (nomark _)))))
      (pss_one (ps_set (i := 1) sc100.nd rfl (Or.inl rfl) (pe_cal C hr (pa_cons (pv 1) (pa_cons (pv 2) pa_nil))))))
    (pss_one (ps_ret (pv 1))))), ?_⟩
  refine ⟨_, rfl, rfl, _, rfl, iteX (str_ne hn.ne) ?_⟩
  refine ⟨_, rfl, rfl, _, rfl, ?_⟩
  by_cases c1 : nm = "once"
  · have e : mv nm t k = once t k := if_pos c1
    rw [e] at q
    refine iteY (str_eq c1) ?_
    cases t with
    | lf => cases hk
    | nd l x r =>
    obtain ⟨p, vl, vr, rfl, hp, hl, hrr⟩ := id ht
    refine ⟨_, rfl, p, _, _, _, rfl, rfl, SqT.of hp, rfl, _, rfl, rfl, _, rfl, ite2 (fun d => ?_) (fun d => ?_)⟩
    · have d : x ≠ k := fun e => by
        rw [e] at d
        simp at d
      have e2 : once (nd l x r) k = turn (nd l x r) k := if_neg d
      rw [e2] at q
      exact ⟨_, rfl, _, rfl, _, nd l x r, k, rfl, ht, hw, hk, d, Nat.lt_succ_of_le hw.ht, q⟩
    · have d : x = k := Decidable.byContradiction fun e => d (by
        rw [decide_eq_false (fun z => e (V.int.inj z))]
        rfl)
      have e2 : once (nd l x r) k = nd l x r := if_pos d
      rw [e2] at q
      have ct : ¬ nm = "top" := fun z => absurd (c1.symm.trans z) (by decide +kernel)
      refine ⟨fun m σ H1 => m = 0 ∧ σ = [some (.str nm), some (.ref p), some (.int k)] ∧ H1 = H, ⟨0, rfl, rfl, rfl⟩, ?_⟩
      rintro m σ H1 ⟨rfl, rfl, rfl⟩
      exact ⟨_, rfl, rfl, _, rfl, iteX (str_ne ct) (iteF ⟨_, rfl, q _ _ (Same.refl _) ht⟩)⟩
  refine iteX (str_ne c1) (iteF ?_)
  by_cases c2 : nm = "top"
  · have e : mv nm t k = toTop t k := by
      show (if nm = "once" then _ else if nm = "top" then _ else _) = _
      rw [if_neg c1, if_pos c2]
    rw [e] at q
    refine ⟨fun m σ H1 => ∃ v1 t1, σ = [some (.str nm), some v1, some (.int k)] ∧ Same H H1 ∧ TreeAt H1 v1 t1 ∧ WT t1 ∧ k ∈ t1.keys ∧ toTop t1 k = toTop t k ∧ m = dep t1 k, ⟨dep t k, v, t, rfl, Same.refl _, ht, hw, hk, rfl, rfl⟩, ?_⟩
    rintro m σ H1 ⟨v1, t1, rfl, s1, h1, w1, k1, e1, rfl⟩
    cases t1 with
    | lf => cases k1
    | nd l x r =>
    obtain ⟨p, vl, vr, rfl, hp, hl, hrr⟩ := id h1
    refine ⟨_, rfl, rfl, _, rfl, iteY (str_eq c2) ?_⟩
    refine ⟨_, rfl, p, _, _, _, rfl, rfl, SqT.of hp, rfl, _, rfl, rfl, _, rfl, ite2 (fun d => ?_) (fun d => ?_)⟩
    · have d : x ≠ k := fun e => by
        rw [e] at d
        simp at d
      refine ⟨fun σ' H' => ∃ v2, σ' = [some (.str nm), some v2, some (.int k)] ∧ Same H H' ∧ TreeAt H' v2 (turn (nd l x r) k), ?_, ?_⟩
      · rintro σ' H' ⟨v2, rfl, s2, h2⟩
        refine ⟨dep (turn (nd l x r) k) k, ?_, v2, _, rfl, s2, h2, w1.turn k, by rw [keys_turn]; exact k1, (toTop_turn w1 k1 d).trans e1, rfl⟩
        have := dep_turn w1 k1 d
        omega
      · exact ⟨_, rfl, _, rfl, _, nd l x r, k, rfl, h1, w1, k1, d, Nat.lt_succ_of_le w1.ht, fun v2 H2 s2 h2 => ⟨v2, rfl, s1.trans s2, h2⟩⟩
    · have d : x = k := Decidable.byContradiction fun e => d (by
        rw [decide_eq_false (fun z => e (V.int.inj z))]
        rfl)
      refine ⟨_, rfl, ?_⟩
      rw [← e1, toTop_top (t := nd l x r) d] at q
      exact q _ _ s1 h1
  · have e : mv nm t k = t := by
      show (if nm = "once" then _ else if nm = "top" then _ else _) = _
      rw [if_neg c1, if_neg c2]
    rw [e] at q
    refine ⟨fun m σ H1 => m = 0 ∧ σ = [some (.str nm), some v, some (.int k)] ∧ H1 = H, ⟨0, rfl, rfl, rfl⟩, ?_⟩
    rintro m σ H1 ⟨rfl, rfl, rfl⟩
    exact ⟨_, rfl, rfl, _, rfl, iteX (str_ne c2) (iteF ⟨_, rfl, q _ _ (Same.refl _) ht⟩)⟩
theorem sc102 : FnScope ["_law_rule_here", "_law_shape", "_law_key", "_law_name"] ["_law_rule_here", "_law_shape", "_law_key"] (defScope (top 102)) := ⟨rfl, rfl, rfl, by decide +kernel, rfl, by decide +kernel, by decide +kernel⟩
theorem c_lin (D : Def K mg 102 "_law_in" ["_law_rule_here", "_law_shape", "_law_key"]) (C1 : Cal P w K mg base "_law_leaf" ["_law_shape", "_law_key"] 10 spLLeaf) (C2 : Cal P w K mg base "_law_moved" ["_law_name", "_law_shape", "_law_key"] 9 spLMoved) :
    Cal P w K mg base "_law_in" ["_law_rule_here", "_law_shape", "_law_key"] 11 spWith := by
  refine D.cal sc102 (fun vs H Q E h => ?_) (fun f cdv A outer s H vs Q E hr h => ?_)
  · obtain ⟨_, _, _, _, _, rfl, _⟩ := h
    rfl
  obtain ⟨r, v, nm, t, k, rfl, ⟨a, rfl, ha⟩, hn, ht, hw, hk, k1, k2, q⟩ := h
  refine ⟨_, pss_cons (ps_set (i := 3) sc102.nd rfl (Or.inl rfl) (pe_ix ix_tup (pv 0) pe_int (fun _ _ => rfl)))
    (pss_cons (ps_if (pt_cmpR op_in_seq (pv 3) (pe_tup (pa_cons pe_str (pa_cons pe_str pa_nil))) (by rfl)) pss_never pss_nil)
    (pss_cons (ps_if (pt_cmpR op_eq (pv 3) pe_str (nomark _)) pss_never pss_nil)
    (pss_cons (ps_if (pt_cmpR op_eq (pv 3) pe_str (nomark _)) pss_never pss_nil)
    (pss_cons (ps_if (pt_cmpR op_eq (pv 3) pe_str (nomark _)) pss_never pss_nil)
    (pss_one (ps_ret (pe_cal C2 hr (pa_cons (pv 3) (pa_cons (pe_cal C1 hr (pa_cons (pv 1) (pa_cons (pv 2) pa_nil))) (pa_cons (pv 2) pa_nil)))))))))), ?_⟩
  refine ⟨_, rfl, a, _, _, _, rfl, rfl, SqT.of ha, rfl, ?_⟩
  refine ⟨_, rfl, small2, fun p np => ?_⟩
  have s1 := same_new np (.tup [.str "heights", .str "weights"])
  refine ⟨p, _, rfl, .inr (SqT.of upd_same), rfl, rfl, _, rfl, iteX (no_hw hn) ?_⟩
  refine ⟨_, rfl, rfl, _, rfl, iteX (str_ne hn.ne) ?_⟩
  refine ⟨_, rfl, rfl, _, rfl, iteX (str_ne hn.ne) ?_⟩
  refine ⟨_, rfl, rfl, _, rfl, iteX (str_ne hn.ne) ?_⟩
  refine ⟨_, rfl, _, rfl, _, rfl, v, t, k, rfl, ht.mono (tkS s1), hw, hk, fun v2 H2 s2 h2 => ?_⟩
  exact ⟨_, rfl, v2, nm, _, k, rfl, hn, h2, hw.wleaf k1 k2 hk, wleaf_mem t k, fun v3 H3 s3 h3 => q _ _ (s1.trans (s2.trans s3)) h3⟩
theorem sc103 : FnScope ["_law_rule_here", "_law_shape", "_law_deed_here", "_law_name", "_law_key", "_law_new", "_law_above"] ["_law_rule_here", "_law_shape", "_law_deed_here"] (defScope (top 103)) := ⟨rfl, rfl, rfl, by decide +kernel, rfl, by decide +kernel, by decide +kernel⟩
theorem c_lafter (D : Def K mg 103 "_law_after" ["_law_rule_here", "_law_shape", "_law_deed_here"]) (C1 : Cal P w K mg base "_law_moved" ["_law_name", "_law_shape", "_law_key"] 9 spLMoved) (C2 : Cal P w K mg base "_law_in" ["_law_rule_here", "_law_shape", "_law_key"] 11 spWith)
    (C3 : Cal P w K mg base "_law_out" ["_law_shape", "_law_key"] 16 (spOut 7)) : Cal P w K mg base "_law_after" ["_law_rule_here", "_law_shape", "_law_deed_here"] 17 spAfter := by
  refine D.cal sc103 (fun vs H Q E h => ?_) (fun f cdv A outer s H vs Q E hr h => ?_)
  · obtain ⟨_, _, _, _, _, _, _, rfl, _⟩ := h
    rfl
  obtain ⟨r, v, d, nm, wd, t, k, rfl, ⟨b, rfl, hb⟩, hn, ht, hw, ⟨a, rfl, ha⟩, hp, q⟩ := h
  refine ⟨_, pss_cons (ps_asg (pe_tup (pa_cons (pe_ix ix_tup (pv 0) pe_int (fun _ _ => rfl)) (pa_cons (pe_ix ix_tup (pv 2) pe_int (fun _ _ => rfl)) pa_nil))) (pg_tup rfl (pgs_cons (pg_name (i := 3) sc103.nd rfl (.inl rfl)) (pgs_cons (pg_name (i := 4) sc103.nd rfl (.inr rfl)) pgs_nil))))
    (pss_cons (ps_if (pt_cmpR op_eq (pe_ix ix_tup (pv 2) pe_int (fun _ _ => rfl)) pe_str (nomark _)) (pss_one (ps_ret (pe_cal C1 hr (pa_cons (pv 3) (pa_cons (pv 1) (pa_cons (pv 4) pa_nil)))))) pss_nil)
    (pss_cons (ps_if (pt_cmpR op_eq (pe_ix ix_tup (pv 2) pe_int (fun _ _ => rfl)) pe_str (nomark _)) (pss_one (ps_ret (pe_cal C2 hr (pa_cons (pv 0) (pa_cons (pv 1) (pa_cons (pv 4) pa_nil)))))) pss_nil)
    (pss_cons (ps_if (pt_cmpR op_eq (pv 3) pe_str (nomark _)) pss_never pss_nil)
    (pss_cons (ps_if (pt_cmpR op_eq (pv 3) pe_str (nomark _)) pss_never pss_nil)
    (pss_cons (ps_if (pt_cmpR op_eq (pv 3) pe_str (nomark _)) pss_never pss_nil)
    (pss_cons (ps_asg (pe_cal C3 hr (pa_cons (pv 1) (pa_cons (pv 4) pa_nil))) (pg_tup rfl (pgs_cons (pg_name (i := 5) sc103.nd rfl (.inl rfl)) (pgs_cons (pg_name (i := 6) sc103.nd rfl (.inl rfl)) pgs_nil))))
    (pss_cons (ps_if (pt_cmpR op_eq (pv 3) pe_str (nomark _)) pss_never pss_nil)
    (pss_one (ps_ret (pe_ifExp (pt_cmpR op_in_seq (pv 3) (pe_tup (pa_cons pe_str (pa_cons pe_str pa_nil))) (by rfl)) pe_no (pv 5))))))))))), ?_⟩
  refine ⟨_, rfl, b, _, _, _, rfl, rfl, SqT.of hb, rfl, _, rfl, a, _, _, _, rfl, rfl, SqT.of ha, rfl, small2, fun p np => ?_⟩
  have s1 := same_new np (.tup [.str nm, .int k])
  have ha1 := s1 _ _ ha
  have hb1 := s1 _ _ hb
  have ht1 := ht.mono (tkS s1)
  refine ⟨p, _, rfl, SqT.of upd_same, rfl, _, _, rfl, _, _, rfl, rfl, ?_⟩
  refine ⟨_, rfl, a, _, _, _, rfl, rfl, SqT.of ha1, rfl, rfl, _, rfl, ?_⟩
  by_cases c1 : wd = "ask"
  · have e : aft nm t wd k = mv nm t k := if_pos c1
    rw [e] at q
    have hk : k ∈ t.keys := by
      rcases hp with ⟨z, _⟩ | ⟨_, z⟩
      · rw [z] at c1
        exact absurd c1 (by decide +kernel)
      · exact z
    exact iteY (str_eq c1) ⟨_, rfl, _, rfl, _, rfl, v, nm, t, k, rfl, hn, ht1, hw, hk, fun v2 H2 s2 h2 => q _ _ (s1.trans s2) h2⟩
  refine iteX (str_ne c1) ⟨_, rfl, a, _, _, _, rfl, rfl, SqT.of ha1, rfl, rfl, _, rfl, ?_⟩
  by_cases c2 : wd = "in"
  · have e : aft nm t wd k = mv nm (wleaf t k) k := by
      show (if wd = "ask" then _ else if wd = "in" then _ else _) = _
      rw [if_neg c1, if_pos c2]
    rw [e] at q
    obtain ⟨k1, k2, k3⟩ : k ∉ t.keys ∧ 1 ≤ k ∧ k ≤ 6 := by
      rcases hp with ⟨_, z⟩ | ⟨z | z, _⟩
      · exact z
      · exact absurd z c1
      · rw [z] at c2
        exact absurd c2 (by decide +kernel)
    exact iteY (str_eq c2) ⟨_, rfl, _, rfl, _, rfl, _, v, nm, t, k, rfl, ⟨b, rfl, hb1⟩, hn, ht1, hw, k1, k2, k3, fun v2 H2 s2 h2 => q _ _ (s1.trans s2) h2⟩
  have e : aft nm t wd k = wout t k := by
    show (if wd = "ask" then _ else if wd = "in" then _ else _) = _
    rw [if_neg c1, if_neg c2]
  rw [e] at q
  have hk : k ∈ t.keys := by
    rcases hp with ⟨z, _⟩ | ⟨_, z⟩
    · exact absurd z c2
    · exact z
  refine iteX (str_ne c2) ⟨_, rfl, rfl, _, rfl, iteX (str_ne hn.ne) ?_⟩
  refine ⟨_, rfl, rfl, _, rfl, iteX (str_ne hn.ne) ?_⟩
  refine ⟨_, rfl, rfl, _, rfl, iteX (str_ne hn.ne) ?_⟩
  refine ⟨_, rfl, _, rfl, v, t, k, rfl, ht1, hw, hk, Nat.lt_succ_of_le hw.ht, fun p2 x y H2 s2 e2 h2 => ?_⟩
  refine ⟨p2, _, rfl, SqT.of e2, rfl, _, _, rfl, _, _, rfl, rfl, ?_⟩
  refine ⟨_, rfl, rfl, _, rfl, iteX (str_ne hn.ne) ?_⟩
  refine ⟨_, rfl, small2, fun p3 n3 => ?_⟩
  have s3 := same_new n3 (.tup [.str "heights", .str "weights"])
  refine ⟨p3, _, rfl, .inr (SqT.of upd_same), rfl, rfl, _, rfl, iteX (no_hw hn) ?_⟩
  exact ⟨_, rfl, q _ _ (s1.trans (s2.trans s3)) (h2.mono (tkS s3))⟩
end
end Tt

/-! TtL7 -/
namespace Tt
open PySem PySem.Spec PyProof.Rows L2
open T (nd lf)
/-! ### the keys that are away -/
def irange (i : Nat) : List Int := (List.range i).map fun j : Nat => 1 + (j : Int)
def awayN (i : Nat) (hs : List Int) : List Int := (irange i).filter fun k => decide (k ∉ hs)
theorem away_succ (i : Nat) (hs : List Int) : awayN (i + 1) hs = awayN i hs ++ (if 1 + (i : Int) ∉ hs then [1 + (i : Int)] else []) := by
  unfold awayN irange
  rw [List.range_succ, List.map_append, List.filter_append]
  congr 1
  show [1 + (i : Int)].filter _ = _
  by_cases c : 1 + (i : Int) ∉ hs
  · rw [if_pos c]
    exact List.filter_cons_of_pos (decide_eq_true c)
  · rw [if_neg c]
    exact List.filter_cons_of_neg (by simpa using c)
theorem away_len (i : Nat) (hs : List Int) : (awayN i hs).length ≤ i := by
  unfold awayN irange
  exact Nat.le_trans (List.length_filter_le _ _) (by rw [List.length_map, List.length_range]; exact Nat.le_refl _)
theorem away_mem {k : Int} {hs : List Int} (h : k ∈ awayN 6 hs) : k ∉ hs ∧ 1 ≤ k ∧ k ≤ 6 := by
  obtain ⟨h1, h2⟩ := List.mem_filter.mp h
  obtain ⟨j, hj, e⟩ := List.mem_map.mp h1
  have := List.mem_range.mp hj
  exact ⟨of_decide_eq_true h2, by omega, by omega⟩
theorem away_has {k : Int} {hs : List Int} (h : k ∉ hs) (a : 1 ≤ k) (b : k ≤ 6) : k ∈ awayN 6 hs :=
  List.mem_filter.mpr ⟨List.mem_map.mpr ⟨(k - 1).toNat, List.mem_range.mpr (by omega), by omega⟩, decide_eq_true h⟩
theorem away_pos {hs : List Int} (h : hs.length ≤ 3) : 0 < (awayN 6 hs).length := by
  have one : ∃ k : Int, 1 ≤ k ∧ k ≤ 6 ∧ k ∉ hs := by
    refine Classical.byContradiction fun n => ?_
    have f : ∀ k : Int, 1 ≤ k → k ≤ 6 → k ∈ hs := fun k a b => Decidable.byContradiction fun c => n ⟨k, a, b, c⟩
    have f1 := f 1 (by decide) (by decide)
    have f2 := f 2 (by decide) (by decide)
    have f3 := f 3 (by decide) (by decide)
    have f4 := f 4 (by decide) (by decide)
    match hs, h with
    | [], _ => cases f1
    | [a], _ =>
      simp only [List.mem_cons, List.not_mem_nil, or_false] at f1 f2
      omega
    | [a, b], _ =>
      simp only [List.mem_cons, List.not_mem_nil, or_false] at f1 f2 f3
      omega
    | [a, b, c], _ =>
      simp only [List.mem_cons, List.not_mem_nil, or_false] at f1 f2 f3 f4
      omega
    | _ :: _ :: _ :: _ :: _, h => simp at h
  obtain ⟨k, a, b, c⟩ := one
  exact List.length_pos_of_mem (away_has c a b)
theorem notIn_iff {k : Int} {hs : List Int} {b : Bool} : (if true = true then !inV (.int k) (hs.map V.int) else b) = decide (k ∉ hs) := by
  rw [if_pos rfl, inV_int]
  by_cases c : k ∈ hs <;> simp [c]
section
variable {X : Cx} {e : Expr}
/-- a test, with a word behind it -/
def tCutT (t : TT) : TT := fun σ H Q => ∃ Mid : Bool → Hp → Prop, t σ H Mid ∧ ∀ b H', Mid b H' → Q b H'
theorem pt_cut {t : TT} (h : PT X e t) : PT X e (tCutT t) := by
  refine ⟨fun pins s σ H Q I hq => ?_⟩
  obtain ⟨Mid, h1, h2⟩ := hq
  exact thn (h.run pins s σ H Mid I h1) fun b s1 ⟨H1, I1, q⟩ => ⟨H1, I1, h2 _ _ q⟩
end
section
variable {P : Program} {w : World} {K : PySem.W.Frag} {mg : Str → Option Value} {base : Heap}
/-- a deed that is possible with some keys there -/
def spLDeed (K : PySem.W.Frag) : Sp := fun vs H Q _ => ∃ (s a l : Addr) (ns hs : List Int), vs = [.ref s, .ref a, .ref l, .int 6] ∧ Scr K H a s ns ∧ Town a H ∧ l ≠ a ∧ H l = some (.lst (hs.map V.int)) ∧ hs.length ≤ 6 ∧
  ∀ v wd k H', But a H H' → Town a H' → DeedAt H' v wd k → ((wd = "in" ∧ k ∉ hs ∧ 1 ≤ k ∧ k ≤ 6) ∨ ((wd = "ask" ∨ wd = "out") ∧ k ∈ hs)) → Q v H'
theorem sc107 : FnScope ["_law_script", "_law_town", "_law_here", "_law_keys_here", "_law_away", "_law_key"] ["_law_script", "_law_town", "_law_here", "_law_keys_here"] (defScope (top 107)) := ⟨rfl, rfl, rfl, by decide +kernel, rfl, by decide +kernel, by decide +kernel⟩
theorem c_ldeed (D : Def K mg 107 "_law_deed" ["_law_script", "_law_town", "_law_here", "_law_keys_here"]) (Z : Txt mg) (CD : Cal P w K mg base "_law_draw" ["_law_script", "_law_town", "_law_many"] 1 (spDraw K)) (CP : Cal P w K mg base "_law_pick" ["_law_script", "_law_town", "_law_some"] 2 (spPick K)) :
    Cal P w K mg base "_law_deed" ["_law_script", "_law_town", "_law_here", "_law_keys_here"] 3 (spLDeed K) := by
  refine D.cal sc107 (fun vs H Q E h => ?_) (fun f cdv A outer s0 H vs Q E hr h => ?_)
  · obtain ⟨_, _, _, _, _, rfl, _⟩ := h
    rfl
  obtain ⟨s, a, l, ns, hs, rfl, hS, hT, la, hl, h6, q⟩ := h
  refine ⟨_, pss_cons (ps_setLc (i := 4) (own := [("_law_key", 5)]) (g := gName 5) (by rfl) sc107.nd rfl rfl (sw_true rfl rfl rfl (by decide +kernel)) (pi_range2 (by rfl) Z.range (pa_cons pe_int (pa_cons (pe_op op_add (pv 3) pe_int) pa_nil)))
      (blkOk_by (own := [("_law_key", 5)]) (N := ["_law_script", "_law_town", "_law_here", "_law_keys_here", "_law_away", "_law_key"]) (sc := defScope (top 107)) (by decide +kernel))
      (fun _ _ _ _ _ => pg_name (i := 5) sc107.nd rfl (Or.inl rfl)) (fun _ _ _ _ _ => pts_one (pt_cmpR (r := rIn K true) op_notIn_seq (pv 5) (pv 2) (by rfl))) (fun _ _ _ _ _ => pv 5))
    (pss_cons (ps_if (pt_cut (PW.pt (pw_or (pt_cmpR (op_eqNil hr.units) (pv 2) (pe_lst pa_nil) (nomark _)) (pw_or1 (PW.pt (pw_and (pt_cmpR (op_neNil hr.units) (pv 4) (pe_lst pa_nil) (nomark _)) (pw_and1 (pt_cmpR op_eq (pe_cal CD hr (pa_cons (pv 0) (pa_cons (pv 1) (pa_cons pe_int pa_nil)))) pe_int (nomark _)))))))))
      (pss_one (ps_ret (pe_tup (pa_cons pe_str (pa_cons (pe_cal CP hr (pa_cons (pv 0) (pa_cons (pv 1) (pa_cons (pv 4) pa_nil)))) pa_nil))))) pss_nil)
    (pss_one (ps_ret (pe_tup (pa_cons (pe_cal CP hr (pa_cons (pv 0) (pa_cons (pv 1) (pa_cons (pe_lst (pa_cons pe_str (pa_cons pe_str pa_nil))) pa_nil)))) (pa_cons (pe_cal CP hr (pa_cons (pv 0) (pa_cons (pv 1) (pa_cons (pv 2) pa_nil)))) pa_nil)))))), ?_⟩
  refine ⟨_, rfl, _, _, rfl, rfl, 1, 7, rfl, ⟨by decide, by decide, by decide, by decide⟩, fun D1 nD => lc_range (lo := 1) (n := 6) (fun i H' => Same H H' ∧ H' D1 = some (.lst ((awayN i hs).map V.int))) ⟨same_new nD _, upd_same⟩ ?_ ?_⟩
  · rintro i H' hi ⟨sm, hD⟩
    refine ⟨rfl, _, rfl, _, rfl, l, _, rfl, .inl (SqL.of (sm _ _ hl)), rfl, flat_ints _, _, rfl, ?_⟩
    rw [notIn_iff]
    have ln := away_len i hs
    refine ite2 (fun c => ?_) (fun c => ?_)
    · refine ⟨_, rfl, _, hD, by rw [List.length_map]; exact small1000 (by omega), same_upd sm nD _, ?_⟩
      rw [upd_same, away_succ, if_pos (of_decide_eq_true c), List.map_append]
      rfl
    · refine ⟨sm, ?_⟩
      rw [hD, away_succ, if_neg (fun z => c (decide_eq_true z)), List.append_nil]
  rintro H1 ⟨s1, hD⟩
  have dne : D1 ≠ a := hT.ne nD
  have b1 : But a H H1 := But.of s1
  have t1 := hT.mono s1
  have hl1 := s1 _ _ hl
  have ln := away_len 6 hs
  refine ⟨fun b H' => But a H1 H' ∧ Town a H' ∧ (b = true → awayN 6 hs ≠ []) ∧ (b = false → hs ≠ []), ?_, ?_⟩
  · refine ⟨_, rfl, Nat.zero_le _, fun p np => ?_⟩
    have s2 := same_new np (.lst [])
    refine ⟨l, p, hs, rfl, rfl, SqL.of (s2 _ _ hl1), SqL.of upd_same, _, rfl, ?_⟩
    cases ehs : hs with
    | nil => exact iteT ⟨But.of s2, t1.mono s2, fun _ => by decide, fun z => nomatch z⟩
    | cons h0 hr0 =>
    rw [← ehs]
    have hsn : hs ≠ [] := by
      rw [ehs]
      exact List.cons_ne_nil _ _
    refine iteX (by rw [ehs]; exact Bool.false_ne_true) ?_
    refine ⟨_, rfl, Nat.zero_le _, fun p3 n3 => ?_⟩
    have s3 := same_new n3 (.lst [])
    have s23 := s2.trans s3
    refine ⟨D1, p3, awayN 6 hs, rfl, rfl, SqL.of (s23 _ _ hD), SqL.of upd_same, _, rfl, ?_⟩
    cases ew : awayN 6 hs with
    | nil => exact iteF ⟨But.of s23, t1.mono s23, fun z => (nomatch z), fun _ => hsn⟩
    | cons w0 wr =>
    refine iteT ⟨_, rfl, _, rfl, s, a, ns, 2, rfl, (hS.mono b1).mono (But.of s23), t1.mono s23, by decide, by decide, fun r H4 r0 r1 b4 t4 => ?_⟩
    exact ⟨rfl, _, rfl, (But.of s23).trans b4, t4, fun _ => List.cons_ne_nil _ _, fun _ => hsn⟩
  · rintro b H2 ⟨b2, t2, hb1, hb2⟩
    have b12 := b1.trans b2
    have hS2 := hS.mono b12
    cases b with
    | true =>
      have pos : 0 < ((awayN 6 hs).map V.int).length := by
        rw [List.length_map]
        exact List.length_pos_iff.mpr (hb1 rfl)
      refine iteT ⟨_, rfl, _, rfl, _, rfl, s, a, D1, ns, _, rfl, hS2, t2, dne, b2 _ _ dne hD, pos, by rw [List.length_map]; omega, fun i v H3 hv b3 t3 => ?_⟩
      obtain ⟨y, rfl, hy⟩ := ints_at hv
      refine ⟨small2, fun p np => ?_⟩
      have sp := same_new np (.tup [.str "in", .int y])
      exact q _ "in" y _ (b12.trans (b3.trans (But.of sp))) (t3.mono sp) ⟨p, rfl, upd_same⟩ (.inl ⟨rfl, away_mem (List.mem_of_getElem? hy)⟩)
    | false =>
      refine iteF ⟨_, rfl, _, rfl, small2, fun p np => ?_⟩
      have s3 := same_new np (.lst [.str "ask", .str "out"])
      have b13 := b12.trans (But.of s3)
      have t3 := t2.mono s3
      refine ⟨s, a, p, ns, _, rfl, hS.mono b13, t3, t2.ne np, upd_same, by decide, by decide, fun i v H4 hv b4 t4 => ?_⟩
      have b14 := b13.trans b4
      obtain ⟨wd, rfl, hwd⟩ : ∃ wd : Str, v = .str wd ∧ (wd = "ask" ∨ wd = "out") := by
        match i, hv with
        | 0, hv => exact ⟨"ask", (Option.some.inj hv).symm, .inl rfl⟩
        | 1, hv => exact ⟨"out", (Option.some.inj hv).symm, .inr rfl⟩
        | _ + 2, hv => cases hv
      have pos : 0 < (hs.map V.int).length := by
        rw [List.length_map]
        exact List.length_pos_iff.mpr (hb2 rfl)
      refine ⟨_, rfl, _, rfl, _, rfl, s, a, l, ns, _, rfl, hS.mono b14, t4, la, b14 _ _ la hl, pos, by rw [List.length_map]; omega, fun j v H5 hv2 b5 t5 => ?_⟩
      obtain ⟨y, rfl, hy⟩ := ints_at hv2
      refine ⟨small2, fun p6 n6 => ?_⟩
      have sp := same_new n6 (.tup [.str wd, .int y])
      exact q _ wd y _ (b14.trans (b5.trans (But.of sp))) (t5.mono sp) ⟨p6, rfl, upd_same⟩ (.inr ⟨hwd, List.mem_of_getElem? hy⟩)
end
end Tt

/-! TtL8 -/
namespace Tt
open PySem PySem.Spec PyProof.Rows L2
open T (nd lf)
theorem scr_start {K : PySem.W.Frag} {H : Hp} {a s : Addr} {ns : List Int} (h : SqL K H s (ns.map V.int)) (n : H a = none) (o : HO) : Scr K (upd H a o) a s ns := by
  rcases h with h | h
  · have ne : s ≠ a := by
      intro e
      subst e
      rcases h with h | ⟨_, h⟩ <;> (rw [n] at h; cases h)
    refine .inl ⟨ne, ?_⟩
    rcases h with h | ⟨ob, h⟩
    · exact .inl (by rw [upd_ne ne]; exact h)
    · exact .inr ⟨ob, by rw [upd_ne ne]; exact h⟩
  · exact .inr h
section
variable {P : Program} {w : World} {K : PySem.W.Frag} {mg : Str → Option Value} {base : Heap}
/-- law(script) is True -/
def spLaw (K : PySem.W.Frag) : Sp := fun vs H Q _ => ∃ (s : Addr) (ns : List Int), vs = [.ref s] ∧ SqL K H s (ns.map V.int) ∧ ∀ H', Q (.bl true) H'
theorem sc108 : FnScope ["_law_script", "_law_town", "_law_rule_here", "_law_shape", "_law_k", "_law_deed_here", "_law_new", "_law_key"] ["_law_script"] (defScope (top 108)) := ⟨rfl, rfl, rfl, by decide +kernel, rfl, by decide +kernel, by decide +kernel⟩
theorem okN {i k : Nat} {x : Str} {N ps : List Str} {sp : Sp} {f : Addr} {fd : FuncData} (F : FunD K x x (defArgs (top i)) (defBody (top i)) (defScope (top i)) [] [] f fd) (S : FnScope N ps (defScope (top i))) (len : ∀ vs H Q E, sp vs H Q E → vs.length = ps.length)
    (hbody : ∀ (cdv : Value) (A : Around) (outer : List Env) (s : Shared) (H : Hp) (vs : List V) (Q : VK) (E : XK), Room k (A.deeper (envOfC x (defScope (top i)) s.heap.objs.size f cdv)) → sp vs H Q E →
      ∃ t, PSs (cxOf CX0 P w K mg base N x (defScope (top i)) f cdv A outer s H E).nox (defBody (top i)) t ∧ t { nx := fun _ H' => Q .non H', rt := Q } (start N vs) H) : FnOk P w K mg base CX0 (k + 1) f fd ps sp :=
  F.ok S len fun cdv A outer s H vs Q E hr h => let ⟨t, h1, h2⟩ := hbody cdv A outer s H vs Q E hr h; ⟨t, h1.nox, h2⟩
theorem ok_law {f : Addr} {fd : FuncData} (D : FunD K "law" "law" (defArgs (top 108)) (defBody (top 108)) (defScope (top 108)) [] [] f fd) (Z : Txt mg) (CD : Cal P w K mg base "_law_draw" ["_law_script", "_law_town", "_law_many"] 1 (spDraw K)) (CP : Cal P w K mg base "_law_pick" ["_law_script", "_law_town", "_law_some"] 2 (spPick K))
    (CKeys : Cal P w K mg base "_law_keys" ["_law_shape"] 8 (spKeys 7)) (CDeed : Cal P w K mg base "_law_deed" ["_law_script", "_law_town", "_law_here", "_law_keys_here"] 3 (spLDeed K))
    (CLA : Cal P w K mg base "_law_after" ["_law_rule_here", "_law_shape", "_law_deed_here"] 17 spAfter) (CA : Cal P w K mg base "after" ["rule", "shape", "deed"] 19 spAfter) (CK : Cal P w K mg base "keeps" ["rule", "shape"] 11 spKeeps) :
    FnOk P w K mg base CX0 20 f fd ["_law_script"] (spLaw K) := by
  refine okN D sc108 (fun vs H Q E h => ?_) (fun cdv A outer s0 H vs Q E hr h => ?_)
  · obtain ⟨_, _, rfl, _⟩ := h
    rfl
  obtain ⟨s, ns, rfl, hS, q⟩ := h
  refine ⟨_, pss_cons (ps_set (i := 1) sc108.nd rfl (Or.inl rfl) (pe_lst (pa_cons pe_int (pa_cons pe_int pa_nil))))
    (pss_cons (ps_asg (pe_tup (pa_cons (pe_cal CP hr (pa_cons (pv 0) (pa_cons (pv 1) (pa_cons (pe_lst (pa_cons (pe_tup (pa_cons pe_str pa_nil)) (pa_cons (pe_tup (pa_cons pe_str pa_nil)) (pa_cons (pe_tup (pa_cons pe_str pa_nil)) (pa_cons (pe_tup (pa_cons pe_str pa_nil)) pa_nil))))) pa_nil)))) (pa_cons pe_unit pa_nil)))
      (pg_tup rfl (pgs_cons (pg_name (i := 2) sc108.nd rfl (.inl rfl)) (pgs_cons (pg_name (i := 3) sc108.nd rfl (.inr rfl)) pgs_nil))))
    (pss_cons (ps_for PassesOwn.never rfl (pi_range1 (by rfl) Z.range (pa_cons (pe_op op_add pe_int (pe_cal CD hr (pa_cons (pv 0) (pa_cons (pv 1) (pa_cons pe_int pa_nil))))) pa_nil)) (pg_name (i := 4) sc108.nd rfl (Or.inl rfl))
      (pss_cons (ps_set (i := 5) sc108.nd rfl (Or.inl rfl) (pe_cal CDeed hr (pa_cons (pv 0) (pa_cons (pv 1) (pa_cons (pe_cal CKeys hr (pa_cons (pv 3) pa_nil)) (pa_cons pe_int pa_nil))))))
      (C8.pss_cut (ps_if (PW.pt (pw_and (pt_cmpR op_lt (pv 4) pe_int (nomark _)) (pw_and1 (pt_cmpR op_gt (pe_cal CD hr (pa_cons (pv 0) (pa_cons (pv 1) (pa_cons pe_int pa_nil)))) pe_int (nomark _)))))
        (pss_one (ps_set (i := 5) sc108.nd rfl (Or.inl rfl) (pe_tup (pa_cons pe_str (pa_cons (pe_cal CP hr (pa_cons (pv 0) (pa_cons (pv 1) (pa_cons
          (pe_lc (own := [("_law_key", 7)]) (g := gName 7) (by rfl) sc108.nd (pi_range2 (by rfl) Z.range (pa_cons pe_int (pa_cons pe_int pa_nil))) (blkOk_by (own := [("_law_key", 7)]) (N := ["_law_script", "_law_town", "_law_rule_here", "_law_shape", "_law_k", "_law_deed_here", "_law_new", "_law_key"]) (sc := defScope (top 108)) (by decide +kernel))
            (fun _ _ _ _ _ => pg_name (i := 7) sc108.nd rfl (Or.inl rfl)) (fun _ _ _ _ _ => pts_one (pt_cmpR (r := rIn K true) op_notIn_seq (pv 7) (pe_cal CKeys hr (pa_cons (pv 3) pa_nil)) (by rfl))) (fun _ _ _ _ _ => pv 7)) pa_nil)))) pa_nil))))) pss_nil)
      (pss_cons (ps_set (i := 6) sc108.nd rfl (Or.inl rfl) (pe_cal CLA hr (pa_cons (pv 2) (pa_cons (pv 3) (pa_cons (pv 5) pa_nil)))))
      (pss_cons (ps_if (PW.pt (pw_or (pt_cmpR (op_neSame hr.units) (pe_cal CA hr (pa_cons (pv 2) (pa_cons (pv 3) (pa_cons (pv 5) pa_nil)))) (pv 6) (nomark _)) (pw_or1 (pt_cmpR op_isnot_bl (pe_cal CK hr (pa_cons (pv 2) (pa_cons (pv 6) pa_nil))) pe_bl (nomark _))))) (pss_one ps_never) pss_nil)
      (pss_one (ps_set (i := 3) sc108.nd rfl (Or.inr rfl) (pv 6))))))))
    (pss_one (ps_ret pe_bl)))), ?_⟩
  refine ⟨small2, fun a na => ?_⟩
  have hS1 := scr_start hS na (.lst [.int 0, .int 0])
  have t1 : Town a (upd H a (.lst [.int 0, .int 0])) := ⟨0, 0, Int.le_refl _, upd_same⟩
  generalize upd H a (.lst [.int 0, .int 0]) = H1 at hS1 t1
  refine ⟨_, rfl, _, rfl, small1, fun p1 n1 => ⟨small1, fun p2 n2 => ⟨small1, fun p3 n3 => ⟨small1, fun p4 n4 => ⟨by show 4 ≤ sizeLine; decide, fun pl nl => ?_⟩⟩⟩⟩⟩
  have s1 := same_new n1 (.tup [.str "plain"])
  have s2 := same_new n2 (.tup [.str "plain"])
  have s3 := same_new n3 (.tup [.str "once"])
  have s4 := same_new n4 (.tup [.str "top"])
  have sl := same_new nl (.lst [.ref p1, .ref p2, .ref p3, .ref p4])
  have e1 := sl _ _ (s4 _ _ (s3 _ _ (s2 _ _ (upd_same (H := H1) (a := p1) (o := .tup [.str "plain"])))))
  have e2 := sl _ _ (s4 _ _ (s3 _ _ (upd_same (H := upd H1 p1 (.tup [.str "plain"])) (a := p2) (o := .tup [.str "plain"]))))
  have e3 := sl _ _ (s4 _ _ (upd_same (H := upd (upd H1 p1 (.tup [.str "plain"])) p2 (.tup [.str "plain"])) (a := p3) (o := .tup [.str "once"])))
  have e4 := sl _ _ (upd_same (H := upd (upd (upd H1 p1 (.tup [.str "plain"])) p2 (.tup [.str "plain"])) p3 (.tup [.str "once"])) (a := p4) (o := .tup [.str "top"]))
  have s14 := s1.trans (s2.trans (s3.trans s4))
  have s15 := s14.trans sl
  have el : (upd (upd (upd (upd (upd H1 p1 (.tup [.str "plain"])) p2 (.tup [.str "plain"])) p3 (.tup [.str "once"])) p4 (.tup [.str "top"])) pl (.lst [.ref p1, .ref p2, .ref p3, .ref p4])) pl = some (.lst [.ref p1, .ref p2, .ref p3, .ref p4]) := upd_same
  have nla := (t1.mono s14).ne nl
  generalize upd (upd (upd (upd (upd H1 p1 (.tup [.str "plain"])) p2 (.tup [.str "plain"])) p3 (.tup [.str "once"])) p4 (.tup [.str "top"])) pl (.lst [.ref p1, .ref p2, .ref p3, .ref p4]) = H2 at e1 e2 e3 e4 s15 el
  have hS2 := hS1.mono (But.of s15)
  have t2 := t1.mono s15
  refine ⟨s, a, pl, ns, _, rfl, hS2, t2, nla, el, by show 0 < 4; decide, by show 4 < 1000; decide, fun i v H3 hv b3 t3 => ?_⟩
  have k3 := t2.tk b3
  obtain ⟨nm, hn, hR⟩ : ∃ nm, Nm nm ∧ RuleAt H3 v nm := by
    match i, hv with
    | 0, hv => exact ⟨"plain", .inl rfl, p1, (Option.some.inj hv).symm, k3 _ _ e1⟩
    | 1, hv => exact ⟨"plain", .inl rfl, p2, (Option.some.inj hv).symm, k3 _ _ e2⟩
    | 2, hv => exact ⟨"once", .inr (.inl rfl), p3, (Option.some.inj hv).symm, k3 _ _ e3⟩
    | 3, hv => exact ⟨"top", .inr (.inr rfl), p4, (Option.some.inj hv).symm, k3 _ _ e4⟩
    | _ + 4, hv => cases hv
  refine fun u H4 s4 hu => ⟨small2, fun pt npt => ?_⟩
  have s5 := same_new npt (.tup [v, u])
  have s45 := s4.trans s5
  refine ⟨pt, _, rfl, SqT.of upd_same, rfl, _, _, rfl, _, _, rfl, rfl, ?_⟩
  have hS5 := (hS2.mono b3).mono (But.of s45)
  have t5 := t3.mono s45
  have hR5 := hR.mono (tkS s45)
  have hu5 := hu.mono (tkS s5)
  generalize upd H4 pt (.tup [v, u]) = H5 at hS5 t5 hR5 hu5
  refine ⟨_, rfl, _, rfl, s, a, ns, 24, rfl, hS5, t5, by decide, by decide, fun r H6 r0 r1 b6 t6 => ?_⟩
  have k6 := t5.tk b6
  refine ⟨_, _, rfl, rfl, 2 + r, rfl, by omega, by omega, for_range (lo := 0) (n := (2 + r).toNat) (fun i σ H' => ∃ sv t kk dv nv kv, σ = [some (.ref s), some (.ref a), some v, some sv, kk, dv, nv, kv] ∧ Scr K H' a s ns ∧ Town a H' ∧ RuleAt H' v nm ∧ TreeAt H' sv t ∧ WT t ∧ t.keys.length ≤ i)
    ⟨u, .lf, none, none, none, none, rfl, hS5.mono b6, t6, hR5.mono k6, hu5.mono k6, WT.lf, Nat.le_refl _⟩ ?_ ?_⟩
  · rintro i σ H7 hi ⟨sv, t, kk, dv, nv, kv, rfl, hS7, t7, hR7, ht, hw, hl⟩
    have l6 := hw.len
    refine ⟨_, rfl, _, rfl, _, rfl, sv, t, rfl, ht, hw, Nat.lt_succ_of_le hw.ht, fun q1 H8 s8 n8 e8 => ?_⟩
    refine ⟨s, a, q1, ns, t.keys, rfl, hS7.mono (But.of s8), t7.mono s8, t7.ne n8, e8, l6, fun d wd k H9 b9 t9 hd hp => ?_⟩
    have b79 := (But.of s8).trans b9
    have k79 := t7.tk b79
    have hS9 := hS7.mono b79
    have hR9 := hR7.mono k79
    have ht9 := ht.mono k79
    refine ⟨fun σ' H' => ∃ d wd k, σ' = [some (.ref s), some (.ref a), some v, some sv, some (.int (0 + i)), some d, nv, kv] ∧ But a H9 H' ∧ Town a H' ∧ DeedAt H' d wd k ∧ Poss t wd k, ?_, ?_⟩
    · refine ⟨_, rfl, _, _, rfl, rfl, _, rfl, and_if (iteF ⟨d, wd, k, rfl, But.of (Same.refl _), t9, hd, hp⟩) (fun c _ => ?_)⟩
      have c : (0 : Int) + i < 4 := of_decide_eq_true c
      refine ⟨_, rfl, _, rfl, s, a, ns, 4, rfl, hS9, t9, by decide, by decide, fun r2 Ha ra0 ra1 ba ta => ?_⟩
      have ka := t9.tk ba
      refine ⟨_, _, rfl, rfl, _, rfl, ite2 (fun _ => ?_) (fun _ => ⟨d, wd, k, rfl, ba, ta, hd.mono ka, hp⟩)⟩
      have hta := ht9.mono ka
      refine ⟨_, rfl, _, rfl, 1, 7, rfl, ⟨by decide, by decide, by decide, by decide⟩, fun D1 nD => lc_range (lo := 1) (n := 6) (fun i H' => Same Ha H' ∧ H' D1 = some (.lst ((awayN i t.keys).map V.int))) ⟨same_new nD _, upd_same⟩ ?_ ?_⟩
      · rintro j H' hj ⟨sm, hD⟩
        refine ⟨rfl, _, rfl, _, rfl, sv, t, rfl, hta.mono (tkS sm), hw, Nat.lt_succ_of_le hw.ht, fun qk Hk sk nk ek => ?_⟩
        refine ⟨qk, _, rfl, .inl (SqL.of ek), rfl, flat_ints _, _, rfl, ?_⟩
        rw [notIn_iff]
        have ln := away_len j t.keys
        have sak := sm.trans sk
        have hDk := sk _ _ hD
        refine ite2 (fun c => ?_) (fun c => ?_)
        · refine ⟨_, rfl, _, hDk, by rw [List.length_map]; exact small1000 (by omega), same_upd sak nD _, ?_⟩
          rw [upd_same, away_succ, if_pos (of_decide_eq_true c), List.map_append]
          rfl
        · refine ⟨sak, ?_⟩
          rw [hDk, away_succ, if_neg (fun z => c (decide_eq_true z)), List.append_nil]
      rintro Hb ⟨sb, hD⟩
      have dne : D1 ≠ a := ta.ne nD
      have ln := away_len 6 t.keys
      have pos : 0 < ((awayN 6 t.keys).map V.int).length := by
        rw [List.length_map]
        exact away_pos (by omega)
      refine ⟨s, a, D1, ns, _, rfl, (hS9.mono ba).mono (But.of sb), ta.mono sb, dne, hD, pos, by rw [List.length_map]; omega, fun j x Hc hx bc tc => ?_⟩
      obtain ⟨y, rfl, hy⟩ := ints_at hx
      refine ⟨small2, fun pz nz => ?_⟩
      have sz := same_new nz (.tup [.str "in", .int y])
      exact ⟨_, "in", y, rfl, ba.trans ((But.of sb).trans (bc.trans (But.of sz))), tc.mono sz, ⟨pz, rfl, upd_same⟩, .inl ⟨rfl, away_mem (List.mem_of_getElem? hy)⟩⟩
    · rintro σ' Ha ⟨d, wd, k, rfl, ba, ta, hd, hp⟩
      have ka := t9.tk ba
      have hSa := hS9.mono ba
      have hRa := hR9.mono ka
      have hta := ht9.mono ka
      have hw2 := wt_aft hw nm hp
      have hlen := aft_len nm t wd k
      refine ⟨_, rfl, _, rfl, _, rfl, v, sv, d, nm, wd, t, k, rfl, hRa, hn, hta, hw, hd, hp, fun v1 Hb sb hb => ?_⟩
      refine ⟨_, rfl, _, rfl, _, rfl, v, sv, d, nm, wd, t, k, rfl, hRa.mono (tkS sb), hn, hta.mono (tkS sb), hw, hd.mono (tkS sb), hp, fun v2 Hc sc hc => ?_⟩
      refine ⟨_, rfl, aft nm t wd k, hc, hw2, hb.mono (tkS sc), _, rfl, iteF ?_⟩
      have sbc := sb.trans sc
      refine ⟨_, rfl, _, rfl, v, v1, nm, aft nm t wd k, rfl, hRa.mono (tkS sbc), hn, hb.mono (tkS sc), hw2, fun Hd sd => ?_⟩
      have sbd := sbc.trans sd
      refine ⟨_, _, rfl, rfl, _, rfl, iteF ?_⟩
      exact ⟨_, rfl, v1, aft nm t wd k, _, _, _, _, rfl, hSa.mono (But.of sbd), ta.mono sbd, hRa.mono (tkS sbd), hb.mono (tkS (sc.trans sd)), hw2, by omega⟩
  · rintro σ H7 ⟨sv, t, kk, dv, nv, kv, rfl, hS7, t7, hR7, ht, hw, hl⟩
    exact q _
end
end Tt

/-! TtHead -/
namespace Tt
open PySem PySem.Spec PyProof.Rows L2
/-- a def of the top by its place and name -/
def dD (i : Nat) (x : Str) : He.DefD := ⟨(x, none), x, x, defArgs (top i), defBody (top i), defScope (top i), [], []⟩
def fn1 : List He.DefD := [dD 8 "is_number", dD 9 "is_between", dD 10 "is_shape", dD 11 "need_shape", dD 12 "keys_of", dD 17 "left_up", dD 18 "right_up", dD 19 "turned", dD 21 "with_leaf", dD 22 "least", dD 24 "without", dD 25 "once_up", dD 26 "to_top", dD 58 "is_rule", dD 59 "need_rule", dD 61 "is_kept", dD 62 "keeps", dD 63 "with_key", dD 64 "without_key", dD 65 "moved", dD 66 "behind", dD 67 "is_deed", dD 68 "is_possible", dD 69 "need_deed", dD 70 "after"]
def fn2 : List He.DefD := [dD 72 "_law_draw", dD 73 "_law_pick", dD 74 "_law_keys", dD 76 "_law_path", dD 78 "_law_plant", dD 79 "_law_order", dD 80 "_law_turn", dD 81 "_law_leaf", dD 82 "_law_part", dD 83 "_law_put", dD 84 "_law_out", dD 100 "_law_moved", dD 102 "_law_in", dD 103 "_law_after", dD 107 "_law_deed", dD 108 "law"]
def fn : List He.DefD := fn1 ++ fn2
def fnames : List Str := fn.map (·.name)
def fa : List He.Fa := fnames.map He.Fa.glo ++ [.free "isinstance", .free "int", .free "bool", .free "tuple", .free "len", .free "str", .free "range", .int "MOST" 6, .glo "FAMILY"]
def famV : List He.Dv := [.str "heights", .str "levels", .str "once", .str "plain", .str "rebuilt", .str "splayed", .str "top", .str "weights"]
/-- the addresses looked at -/
def asM (g : Addr → Option Obj) : List Addr :=
  let K0 := He.frG g [mainGlobals]
  let fs := fnames.map (He.ga K0)
  mainGlobals :: He.ga K0 "FAMILY" :: (fs ++ fs.flatMap fun a => match g a with
    | some ⟨_, _, .func fd, _⟩ => He.refV fd.code
    | _ => [])
def obM (g : Addr → Option Obj) : He.AlD :=
  let K := He.frG g (asM g)
  ((He.obsD fa fn K).1 && He.tupB K "FAMILY" famV, (He.obsD fa fn K).2)
def SaysM (K : PySem.W.Frag) : Prop := He.SaysD fa fn K ∧ He.tupB K "FAMILY" famV = true
theorem says_of {K : PySem.W.Frag} (e : ((He.obsD fa fn K).1 && He.tupB K "FAMILY" famV, (He.obsD fa fn K).2) = He.valD fn) : SaysM K := by
  have h1 : ((He.obsD fa fn K).1 && He.tupB K "FAMILY" famV) = true := congrArg Prod.fst e
  have h2 : (He.obsD fa fn K).2 = fn.map He.DefD.val := congrArg Prod.snd e
  obtain ⟨a, b⟩ := He.ba h1
  exact ⟨Prod.ext a h2, b⟩
def hookM : PySem.W.Hook where
  α := He.AlD
  obs := fun s => obM s.heap.get?
  val := fun _ => He.valD fn
  says := fun _ h => ∃ K : PySem.W.Frag, K.In h ∧ SaysM K
  of := fun _ _ e => ⟨_, He.frG_in, says_of e⟩
  keeps := fun _ _ _ ⟨K, hK, c⟩ k => ⟨K, PySem.W.Frag.In.keeps hK k, c⟩
abbrev R : PySem.W.OpenRow := PySem.W.OpenLaw.row PySem.Challenge.rw_turnedtrees_k06_whole_plain
def ob (s : PySem.W.SharedT) : He.AlD := obM (HandSHeadRun.getT s)
theorem ob_eq (s : PySem.W.SharedT) : ob s = hookM.obs s.abs := by
  have e : HandSHeadRun.getT s = s.abs.heap.get? := funext (HandSHeadRun.getT_eq s)
  show obM (HandSHeadRun.getT s) = obM s.abs.heap.get?
  rw [e]
def loose1 : List Str := ["TreeError", "InvalidShape", "InvalidRule", "InvalidDeed", "NotKept", "MOST", "is_number", "is_between", "is_shape", "need_shape", "keys_of", "size_of", "height_of", "way_to", "left_up", "right_up", "turned", "with_leaf", "least", "greatest"]
def loose2 : List Str := ["without", "once_up", "to_top", "way_down", "splayed", "without_splayed", "weight_of", "set_right", "is_greater", "is_inner", "put_right", "take_right", "is_even", "built", "rebuilt", "put_rebuilt", "take_rebuilt", "all_parts", "are_right", "are_even"]
def loose3 : List Str := ["rank_of", "ranked", "bare", "skew", "split", "put_in", "with_right", "set_back", "take_out", "is_ranked", "FAMILY", "is_rule", "need_rule", "by_order", "is_kept", "keeps", "with_key", "without_key", "moved", "behind"]
def loose4 : List Str := ["is_deed", "is_possible", "need_deed", "after", "_law_draw", "_law_pick", "_law_keys", "_law_tall", "_law_path", "_law_all", "_law_plant", "_law_order", "_law_turn", "_law_leaf", "_law_part", "_law_put", "_law_out", "_law_heavy", "_law_inner", "_law_fixed"]
def loose5 : List Str := ["_law_set", "_law_even", "_law_is_even", "_law_again", "_law_ranked", "_law_bare", "_law_skew", "_law_split", "_law_level_in", "_law_back", "_law_level_out", "_law_splay", "_law_moved", "_law_splay_out", "_law_in", "_law_after", "_law_price", "_law_ranks", "_law_rule", "_law_deed"]
def loose : List Str := loose1 ++ (loose2 ++ (loose3 ++ (loose4 ++ (loose5))))
theorem run (w : World) : HandSHeadRun.RunEq R (PySem.W.view R.prog [108]) hookM ob 6000 loose w := by
  intro os
  kernel_rfl
section
variable {P : Program} {w : World} {K : PySem.W.Frag} {mg : Str → Option Value} {base h : Heap}
theorem def_at (c : He.SaysD fa fn K) (X : K.In h) (G : h.Ns mainGlobals mg) {i : Nat} {x : Str} {ps : List Str} (j : Nat) (hj : fn[j]? = some (dD i x)) (hf : fa[j]? = some (.glo x))
    (hb : ∀ (kV doc pm : Value) (an : Option Addr) (cdv ct : Value) (us : List Value), us.length = ps.length → bindArgs (PySem.W.fnOf x x (defArgs (top i)) (defBody (top i)) (defScope (top i)) .none kV doc pm an cdv ct) ⟨us, []⟩ = pure (ps.zip us)) : Def K mg i x ps := by
  obtain ⟨fd, F⟩ := c.def_ j hj
  exact ⟨He.ga K x, fd, F, He.glo_ok X G (c.fact j hf), FunD.bindsN F hb⟩
theorem facts (X : K.In h) (G : h.Ns mainGlobals mg) {f : Addr} (hfa : mg ("law" : Str) = some (.ref f)) (c2 : SaysM K) :
    ∃ fd : FuncData, (∀ (s : Shared) (v : Value), BindsTo s fd ⟨[v], []⟩ [("_law_script", v)]) ∧ ∀ base : Heap, K.In base → base.Ns mainGlobals mg → FnOk P w K mg base CX0 20 f fd ["_law_script"] (spLaw K) := by
  obtain ⟨c, cT⟩ := c2
  have d8 : Def K mg 8 "is_number" ["value", "least", "most"] := def_at c X G 0 rfl rfl fun _ _ _ _ _ _ us hl => match us, hl with | [_, _, _], _ => rfl
  have d9 : Def K mg 9 "is_between" ["value", "low", "high"] := def_at c X G 1 rfl rfl fun _ _ _ _ _ _ us hl => match us, hl with | [_, _, _], _ => rfl
  have d10 : Def K mg 10 "is_shape" ["candidate"] := def_at c X G 2 rfl rfl fun _ _ _ _ _ _ us hl => match us, hl with | [_], _ => rfl
  have d11 : Def K mg 11 "need_shape" ["value"] := def_at c X G 3 rfl rfl fun _ _ _ _ _ _ us hl => match us, hl with | [_], _ => rfl
  have d12 : Def K mg 12 "keys_of" ["shape"] := def_at c X G 4 rfl rfl fun _ _ _ _ _ _ us hl => match us, hl with | [_], _ => rfl
  have d17 : Def K mg 17 "left_up" ["part"] := def_at c X G 5 rfl rfl fun _ _ _ _ _ _ us hl => match us, hl with | [_], _ => rfl
  have d18 : Def K mg 18 "right_up" ["part"] := def_at c X G 6 rfl rfl fun _ _ _ _ _ _ us hl => match us, hl with | [_], _ => rfl
  have d19 : Def K mg 19 "turned" ["shape", "key"] := def_at c X G 7 rfl rfl fun _ _ _ _ _ _ us hl => match us, hl with | [_, _], _ => rfl
  have d21 : Def K mg 21 "with_leaf" ["shape", "key"] := def_at c X G 8 rfl rfl fun _ _ _ _ _ _ us hl => match us, hl with | [_, _], _ => rfl
  have d22 : Def K mg 22 "least" ["shape"] := def_at c X G 9 rfl rfl fun _ _ _ _ _ _ us hl => match us, hl with | [_], _ => rfl
  have d24 : Def K mg 24 "without" ["shape", "key"] := def_at c X G 10 rfl rfl fun _ _ _ _ _ _ us hl => match us, hl with | [_, _], _ => rfl
  have d25 : Def K mg 25 "once_up" ["shape", "key"] := def_at c X G 11 rfl rfl fun _ _ _ _ _ _ us hl => match us, hl with | [_, _], _ => rfl
  have d26 : Def K mg 26 "to_top" ["shape", "key"] := def_at c X G 12 rfl rfl fun _ _ _ _ _ _ us hl => match us, hl with | [_, _], _ => rfl
  have d58 : Def K mg 58 "is_rule" ["candidate"] := def_at c X G 13 rfl rfl fun _ _ _ _ _ _ us hl => match us, hl with | [_], _ => rfl
  have d59 : Def K mg 59 "need_rule" ["value"] := def_at c X G 14 rfl rfl fun _ _ _ _ _ _ us hl => match us, hl with | [_], _ => rfl
  have d61 : Def K mg 61 "is_kept" ["rule", "shape"] := def_at c X G 15 rfl rfl fun _ _ _ _ _ _ us hl => match us, hl with | [_, _], _ => rfl
  have d62 : Def K mg 62 "keeps" ["rule", "shape"] := def_at c X G 16 rfl rfl fun _ _ _ _ _ _ us hl => match us, hl with | [_, _], _ => rfl
  have d63 : Def K mg 63 "with_key" ["rule", "shape", "key"] := def_at c X G 17 rfl rfl fun _ _ _ _ _ _ us hl => match us, hl with | [_, _, _], _ => rfl
  have d64 : Def K mg 64 "without_key" ["rule", "shape", "key"] := def_at c X G 18 rfl rfl fun _ _ _ _ _ _ us hl => match us, hl with | [_, _, _], _ => rfl
  have d65 : Def K mg 65 "moved" ["rule", "shape", "key"] := def_at c X G 19 rfl rfl fun _ _ _ _ _ _ us hl => match us, hl with | [_, _, _], _ => rfl
  have d66 : Def K mg 66 "behind" ["rule", "shape", "deed"] := def_at c X G 20 rfl rfl fun _ _ _ _ _ _ us hl => match us, hl with | [_, _, _], _ => rfl
  have d67 : Def K mg 67 "is_deed" ["value"] := def_at c X G 21 rfl rfl fun _ _ _ _ _ _ us hl => match us, hl with | [_], _ => rfl
  have d68 : Def K mg 68 "is_possible" ["shape", "deed"] := def_at c X G 22 rfl rfl fun _ _ _ _ _ _ us hl => match us, hl with | [_, _], _ => rfl
  have d69 : Def K mg 69 "need_deed" ["shape", "value"] := def_at c X G 23 rfl rfl fun _ _ _ _ _ _ us hl => match us, hl with | [_, _], _ => rfl
  have d70 : Def K mg 70 "after" ["rule", "shape", "deed"] := def_at c X G 24 rfl rfl fun _ _ _ _ _ _ us hl => match us, hl with | [_, _, _], _ => rfl
  have d72 : Def K mg 72 "_law_draw" ["_law_script", "_law_town", "_law_many"] := def_at c X G 25 rfl rfl fun _ _ _ _ _ _ us hl => match us, hl with | [_, _, _], _ => rfl
  have d73 : Def K mg 73 "_law_pick" ["_law_script", "_law_town", "_law_some"] := def_at c X G 26 rfl rfl fun _ _ _ _ _ _ us hl => match us, hl with | [_, _, _], _ => rfl
  have d74 : Def K mg 74 "_law_keys" ["_law_shape"] := def_at c X G 27 rfl rfl fun _ _ _ _ _ _ us hl => match us, hl with | [_], _ => rfl
  have d76 : Def K mg 76 "_law_path" ["_law_shape", "_law_key"] := def_at c X G 28 rfl rfl fun _ _ _ _ _ _ us hl => match us, hl with | [_, _], _ => rfl
  have d78 : Def K mg 78 "_law_plant" ["_law_keys_here"] := def_at c X G 29 rfl rfl fun _ _ _ _ _ _ us hl => match us, hl with | [_], _ => rfl
  have d79 : Def K mg 79 "_law_order" ["_law_shape"] := def_at c X G 30 rfl rfl fun _ _ _ _ _ _ us hl => match us, hl with | [_], _ => rfl
  have d80 : Def K mg 80 "_law_turn" ["_law_shape", "_law_key"] := def_at c X G 31 rfl rfl fun _ _ _ _ _ _ us hl => match us, hl with | [_, _], _ => rfl
  have d81 : Def K mg 81 "_law_leaf" ["_law_shape", "_law_key"] := def_at c X G 32 rfl rfl fun _ _ _ _ _ _ us hl => match us, hl with | [_, _], _ => rfl
  have d82 : Def K mg 82 "_law_part" ["_law_shape", "_law_key"] := def_at c X G 33 rfl rfl fun _ _ _ _ _ _ us hl => match us, hl with | [_, _], _ => rfl
  have d83 : Def K mg 83 "_law_put" ["_law_shape", "_law_key", "_law_part_here"] := def_at c X G 34 rfl rfl fun _ _ _ _ _ _ us hl => match us, hl with | [_, _, _], _ => rfl
  have d84 : Def K mg 84 "_law_out" ["_law_shape", "_law_key"] := def_at c X G 35 rfl rfl fun _ _ _ _ _ _ us hl => match us, hl with | [_, _], _ => rfl
  have d100 : Def K mg 100 "_law_moved" ["_law_name", "_law_shape", "_law_key"] := def_at c X G 36 rfl rfl fun _ _ _ _ _ _ us hl => match us, hl with | [_, _, _], _ => rfl
  have d102 : Def K mg 102 "_law_in" ["_law_rule_here", "_law_shape", "_law_key"] := def_at c X G 37 rfl rfl fun _ _ _ _ _ _ us hl => match us, hl with | [_, _, _], _ => rfl
  have d103 : Def K mg 103 "_law_after" ["_law_rule_here", "_law_shape", "_law_deed_here"] := def_at c X G 38 rfl rfl fun _ _ _ _ _ _ us hl => match us, hl with | [_, _, _], _ => rfl
  have d107 : Def K mg 107 "_law_deed" ["_law_script", "_law_town", "_law_here", "_law_keys_here"] := def_at c X G 39 rfl rfl fun _ _ _ _ _ _ us hl => match us, hl with | [_, _, _, _], _ => rfl
  have Z : Txt mg := ⟨He.free_ok X G (c.fact 41 (f := .free "isinstance") rfl), He.free_ok X G (c.fact 42 (f := .free "int") rfl), He.free_ok X G (c.fact 43 (f := .free "bool") rfl), He.free_ok X G (c.fact 44 (f := .free "tuple") rfl), He.free_ok X G (c.fact 45 (f := .free "len") rfl), He.free_ok X G (c.fact 46 (f := .free "str") rfl), He.free_ok X G (c.fact 47 (f := .free "range") rfl), He.int_ok X G (c.fact 48 (f := .int "MOST" 6) rfl)⟩
  have Y : Fam K mg := ⟨He.ga K "FAMILY", He.glo_ok X G (c.fact 49 (f := .glo "FAMILY") rfl), fun H => He.tupB_ok cT H⟩
  obtain ⟨fd, F⟩ := c.def_ 40 (d := dD 108 "law") rfl
  have e := hfa.symm.trans (He.glo_ok X G (c.fact 40 (f := .glo "law") rfl))
  cases e
  have bl := FunD.bindsA (ps := ["_law_script"]) F fun _ _ _ _ _ _ us hl => match us, hl with | [_], _ => rfl
  refine ⟨fd, fun s v => bl s [v] rfl, fun base _ _ => ?_⟩
  have k8 := c_number (P := P) (w := w) (base := base) d8 Z
  have k9 := c_between d9 Z k8 7
  have k10 := c_is_shape d10 Z k9
  have k11 := c_need_shape d11 k10
  have k12 := c_keys (P := P) (w := w) (base := base) d12 7
  have k17 := c_lup (P := P) (w := w) (base := base) d17
  have k18 := c_rup (P := P) (w := w) (base := base) d18
  have k19 := c_turn d19 k17 k18 7
  have k21 := c_leaf (P := P) (w := w) (base := base) d21 7
  have k22 := c_least (P := P) (w := w) (base := base) d22 7
  have k24 := c_wout d24 k22 7 (Nat.le_refl _)
  have k25 := c_once d25 k19
  have k26 := c_toTop d26 k19
  have k58 := c_is_rule (P := P) (w := w) (base := base) d58 Z Y
  have k59 := c_need_rule d59 k58
  have k61 := c_is_kept (P := P) (w := w) (base := base) d61
  have k62 := c_keeps d62 k59 k11 k61
  have k65 := c_moved d65 k25 k26
  have k63 := c_with d63 k21 k65
  have k64 := c_without d64 k24
  have k66 := c_behind d66 k65 k63 k64
  have k67 := c_is_deed d67 Z k8
  have k68 := c_poss d68 k12
  have k69 := c_need_deed d69 k67 k68
  have k70 := c_after d70 k59 k11 k61 k69 k66
  have k72 := c_draw (P := P) (w := w) (base := base) d72 Z
  have k73 := c_pick d73 Z k72
  have k74 := c_lkeys (P := P) (w := w) (base := base) d74 7
  have k76 := c_path (P := P) (w := w) (base := base) d76 7
  have k78 := c_plant (P := P) (w := w) (base := base) d78 8
  have k79 := c_order (P := P) (w := w) (base := base) d79 7
  have k80 := c_lturn (P := P) (w := w) (base := base) d80 7
  have k81 := c_lleaf d81 k78 k79
  have k82 := c_part (P := P) (w := w) (base := base) d82
  have k83 := c_put (P := P) (w := w) (base := base) d83 7
  have k84 := c_out d84 k82 k76 k83 k74 7 (Nat.le_refl _)
  have k100 := c_lmoved d100 k80
  have k102 := c_lin d102 k81 k100
  have k103 := c_lafter d103 k100 k102 k84
  have k107 := c_ldeed d107 Z k72 k73
  exact ok_law F Z k72 k73 k74 k107 k103 k70 k62
end
end Tt
open PySem PySem.W PySem.Calls PyProof.Rows
set_option maxRecDepth 100000 in
set_option maxHeartbeats 0 in
theorem PySem.Challenge.cw_turnedtrees_k06_whole_plain_holds : PySem.Challenge.rw_turnedtrees_k06_whole_plain.Holds := by
  w_on; o_law
  refine HandSHeadRun.head_any (r := OpenLaw.row PySem.Challenge.rw_turnedtrees_k06_whole_plain) (q := view (OpenLaw.row PySem.Challenge.rw_turnedtrees_k06_whole_plain).prog [108]) (H := Tt.hookM) (ob := Tt.ob) (M := 6000) (loose := Tt.loose) (d := HandSHeadRun.topDef (OpenLaw.row PySem.Challenge.rw_turnedtrees_k06_whole_plain).prog 108) (kwd := []) Tt.ob_eq
    (by kernel_rfl) (fun s => by kernel_rfl) Tt.run (by kernel_rfl) (by kernel_rfl) (by kernel_rfl) (by rfl) (by first | assumption | decide +kernel) (by decide +kernel) ⟨rfl, rfl, rfl, rfl, rfl, by decide +kernel⟩ ?hw ?hc
  case hw => w_witness2
  case hc =>
    refine L2.walk_ofE (l := PySem.Challenge.rw_turnedtrees_k06_whole_plain) (n := 63) (k := 20) (x := "_law_script") (CX := L2.CX0) rfl (by decide) (by kernel_rfl) ⟨rfl, by decide, by decide⟩ ?F (fun _ _ _ _ z => z)
    intro w mg fa h Y G hmg0
    obtain ⟨K, KX, c⟩ := Y
    have hmg : mg ("law" : PySem.Str) = some (.ref fa) := by
      have e : (HandSHeadRun.topDef (OpenLaw.row PySem.Challenge.rw_turnedtrees_k06_whole_plain).prog 108).name = ("law" : PySem.Str) := by kernel_rfl
      rw [← e]
      exact hmg0
    obtain ⟨fd, hb, hF⟩ := Tt.facts (P := (PySem.Challenge.rw_turnedtrees_k06_whole_plain).prog) (w := w) KX G hmg c
    exact ⟨K, fd, Tt.spLaw K, KX, hb, fun H a ns hl _ hS => ⟨a, ns, rfl, hS, fun _ => rfl⟩, hF⟩
#print axioms PySem.Challenge.cw_turnedtrees_k06_whole_plain_holds
