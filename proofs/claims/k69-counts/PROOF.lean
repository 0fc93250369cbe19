import PyProof.Rows.All
import Wide.All
import OpenK.AllK
import Wide.FinOn
import HandS.ForMost
import HandS.Codes
import HandS.Wide
import HandS.WideBits
import HandS.Conv
import HandS.NoneIn
import HandS.Property
import HandS.CallLocal
import HandS.Star
import HandS.EndBits
import HandS.IsInst
import HandS.TupAny
import HandS.Style
import HandS.Flow
import HandS.StrMore
import HandS.Deep
import HandS.WrittenGet
import HandS.Set
import HandS.Strs
import HandS.Rev
import HandS.Zip
import HandS.Walk
import KE.KDictDisplayH
import KE.KDictSum
import KE.KDictWalk
import KE.KDictCopyH
import HandS.SetTxt0
import HandS.SetFor
import PyProof.Rows.SortShellAny
import PyProof.Rows.SortStr
import PyProof.P3Eq
import PyProof.StrLawsRepr
import PyProof.Rows.RegStrFacts
import PySem.Challenge.RW_rankedrules_k69_whole_certified_counts
set_option Elab.async false
set_option linter.all false
set_option maxRecDepth 100000
/-! The mathematics: counting rankings, in plain Lean. -/
namespace RK
abbrev Row := List Nat
/-- the sign of a row at a rule: 43 plus, 45 minus, 46 dot -/
def sg (r : Row) (i : Nat) : Nat := r.getD i 46
def Signs (r : Row) : Prop := ∀ c ∈ r, c = 43 ∨ c = 45 ∨ c = 46
theorem Signs.at {r : Row} (h : Signs r) (i : Nat) : sg r i = 43 ∨ sg r i = 45 ∨ sg r i = 46 := by
  unfold sg
  rw [List.getD_eq_getElem?_getD]
  cases e : r[i]? with
  | none => exact .inr (.inr rfl)
  | some c => exact h c (List.mem_of_getElem? e)
def has (r : Row) : List Nat → Bool
  | [] => true
  | a :: rest => if sg r a = 46 then has r rest else sg r a == 43
def allHave (rows : List Row) (o : List Nat) : Bool := rows.all fun r => has r o
def plusIn (r : Row) (above : List Nat) : Bool := above.any fun j => sg r j == 43
def blocks (above : List Nat) (k : Nat) (r : Row) : Bool := sg r k == 45 && !plusIn r above
def canNext (rows : List Row) (above : List Nat) (k : Nat) : Bool := !above.contains k && !rows.any (blocks above k)
def next (rows : List Row) (n : Nat) (above : List Nat) : List Nat := (List.range n).filter (canNext rows above)
def G (rows : List Row) (n : Nat) : Nat → List Nat → Nat
  | 0, _ => 1
  | m + 1, p => ((next rows n p).map fun k => G rows n m (p ++ [k])).sum
def ext1 (n : Nat) (s : List Nat) : List (List Nat) := ((List.range n).filter fun k => !s.contains k).map fun k => s ++ [k]
def orders (n : Nat) : Nat → List (List Nat)
  | 0 => [[]]
  | t + 1 => (orders n t).flatMap (ext1 n)
def told (rows : List Row) (n : Nat) : Nat := ((orders n n).filter (allHave rows)).length
theorem has_append (r : Row) : ∀ (p e : List Nat), (∀ a ∈ p, sg r a = 46) → has r (p ++ e) = has r e
  | [], _, _ => rfl
  | a :: p, e, h => by
    show (if sg r a = 46 then has r (p ++ e) else sg r a == 43) = has r e
    rw [if_pos (h a List.mem_cons_self)]
    exact has_append r p e fun b hb => h b (List.mem_cons_of_mem _ hb)
theorem has_append' (r : Row) : ∀ (p e : List Nat), (¬ ∀ a ∈ p, sg r a = 46) → has r (p ++ e) = has r p
  | [], _, h => absurd (fun _ hb => absurd hb List.not_mem_nil) h
  | a :: p, e, h => by
    show (if sg r a = 46 then has r (p ++ e) else sg r a == 43) = (if sg r a = 46 then has r p else sg r a == 43)
    by_cases ha : sg r a = 46
    · rw [if_pos ha, if_pos ha]
      refine has_append' r p e fun h2 => h fun b hb => ?_
      rcases List.mem_cons.mp hb with rfl | hb
      · exact ha
      · exact h2 b hb
    · rw [if_neg ha, if_neg ha]
theorem has_dots (r : Row) (p : List Nat) (h : ∀ a ∈ p, sg r a = 46) : has r p = true := by
  have := has_append r p [] h
  rw [List.append_nil] at this
  rw [this]; rfl
/-- a row that holds for the rules so far and has no plus there has dots alone there -/
theorem dots_of {r : Row} (hs : Signs r) : ∀ {p : List Nat}, has r p = true → plusIn r p = false → ∀ a ∈ p, sg r a = 46
  | [], _, _, _, h => absurd h List.not_mem_nil
  | b :: p, h1, h2, a, ha => by
    have h1' : (if sg r b = 46 then has r p else sg r b == 43) = true := h1
    have h2' : (sg r b == 43 || plusIn r p) = false := h2
    rw [Bool.or_eq_false_iff] at h2'
    by_cases hb : sg r b = 46
    · rw [if_pos hb] at h1'
      rcases List.mem_cons.mp ha with rfl | ha
      · exact hb
      · exact dots_of hs h1' h2'.2 a ha
    · rw [if_neg hb, h2'.1] at h1'
      cases h1'
theorem noplus_of {r : Row} {p : List Nat} (h : ∀ a ∈ p, sg r a = 46) : plusIn r p = false := by
  unfold plusIn
  rw [List.any_eq_false]
  intro a ha
  rw [h a ha]
  decide
theorem has_next {r : Row} (hs : Signs r) {p : List Nat} {k : Nat} (h : has r p = true) : has r (p ++ [k]) = !blocks p k r := by
  unfold blocks
  by_cases hd : ∀ a ∈ p, sg r a = 46
  · rw [has_append r p [k] hd, noplus_of hd]
    show (if sg r k = 46 then true else sg r k == 43) = _
    rcases hs.at k with e | e | e <;> rw [e] <;> decide
  · rw [has_append' r p [k] hd, h]
    have : plusIn r p = true := by
      cases e : plusIn r p with
      | true => rfl
      | false => exact absurd (dots_of hs h e) hd
    rw [this]
    simp
theorem allHave_next {rows : List Row} (hs : ∀ r ∈ rows, Signs r) {p : List Nat} {k : Nat} (h : allHave rows p = true) : allHave rows (p ++ [k]) = !rows.any (blocks p k) := by
  unfold allHave at h ⊢
  rw [List.all_eq_true] at h
  rw [Bool.eq_iff_iff, List.all_eq_true, Bool.not_eq_true', List.any_eq_false]
  constructor
  · intro q r hr
    have := q r hr
    rw [has_next (hs r hr) (h r hr)] at this
    simpa using this
  · intro q r hr
    rw [has_next (hs r hr) (h r hr)]
    simpa using q r hr
theorem bad_stays {rows : List Row} {p e : List Nat} (h : allHave rows p = false) : allHave rows (p ++ e) = false := by
  unfold allHave at h ⊢
  rw [List.all_eq_false] at h ⊢
  obtain ⟨r, hr, q⟩ := h
  refine ⟨r, hr, ?_⟩
  rw [has_append' r p e]
  · exact q
  · intro hd
    exact q (has_dots r p hd)
/-- the extensions of p by m more rules -/
def seqs (n : Nat) : Nat → List Nat → List (List Nat)
  | 0, p => [p]
  | m + 1, p => (ext1 n p).flatMap (seqs n m)
theorem flatMap_flatMap' {α β γ : Type} (f : α → List β) (g : β → List γ) : ∀ l : List α, (l.flatMap f).flatMap g = l.flatMap fun a => (f a).flatMap g
  | [] => rfl
  | a :: l => by rw [List.flatMap_cons, List.flatMap_append, flatMap_flatMap' f g l, List.flatMap_cons]
theorem seqs_succ (n : Nat) : ∀ (m : Nat) (p : List Nat), seqs n (m + 1) p = (seqs n m p).flatMap (ext1 n)
  | 0, p => by
    show (ext1 n p).flatMap (fun q => [q]) = [p].flatMap (ext1 n)
    rw [List.flatMap_singleton', List.flatMap_cons, List.flatMap_nil, List.append_nil]
  | m + 1, p => by
    show (ext1 n p).flatMap (seqs n (m + 1)) = ((ext1 n p).flatMap (seqs n m)).flatMap (ext1 n)
    rw [flatMap_flatMap']
    congr 1
    funext q
    exact seqs_succ n m q
theorem orders_seqs (n : Nat) : ∀ m : Nat, orders n m = seqs n m []
  | 0 => rfl
  | m + 1 => by
    show (orders n m).flatMap (ext1 n) = _
    rw [orders_seqs n m, seqs_succ]
theorem filter_flatMap_len {α β : Type} (p : β → Bool) (f : α → List β) : ∀ l : List α, ((l.flatMap f).filter p).length = (l.map fun a => ((f a).filter p).length).sum
  | [] => rfl
  | a :: l => by
    rw [List.flatMap_cons, List.filter_append, List.length_append, filter_flatMap_len p f l, List.map_cons, List.sum_cons]
theorem sum_zero : ∀ l : List Nat, (∀ x ∈ l, x = 0) → l.sum = 0
  | [], _ => rfl
  | a :: l, h => by
    rw [List.sum_cons, h a List.mem_cons_self, sum_zero l fun x hx => h x (List.mem_cons_of_mem _ hx)]
theorem bad_none {rows : List Row} {n : Nat} : ∀ (m : Nat) (p : List Nat), allHave rows p = false → ((seqs n m p).filter (allHave rows)).length = 0
  | 0, p, h => by
    show ([p].filter (allHave rows)).length = 0
    rw [List.filter_cons_of_neg (by simp [h])]
    rfl
  | m + 1, p, h => by
    show (((ext1 n p).flatMap (seqs n m)).filter (allHave rows)).length = 0
    rw [filter_flatMap_len]
    refine sum_zero _ fun x hx => ?_
    obtain ⟨q, hq, rfl⟩ := List.mem_map.mp hx
    obtain ⟨k, _, rfl⟩ := List.mem_map.mp hq
    exact bad_none m _ (bad_stays h)
theorem sum_filter {α : Type} (q : α → Bool) (f g : α → Nat) : ∀ l : List α, (∀ a ∈ l, q a = true → f a = g a) → (∀ a ∈ l, q a = false → f a = 0) → (l.map f).sum = ((l.filter q).map g).sum
  | [], _, _ => rfl
  | a :: l, h1, h2 => by
    have ih := sum_filter q f g l (fun b hb => h1 b (List.mem_cons_of_mem _ hb)) fun b hb => h2 b (List.mem_cons_of_mem _ hb)
    rw [List.map_cons, List.sum_cons, ih]
    cases e : q a with
    | true => rw [List.filter_cons_of_pos e, List.map_cons, List.sum_cons, h1 a List.mem_cons_self e]
    | false => rw [List.filter_cons_of_neg (by simp [e]), h2 a List.mem_cons_self e, Nat.zero_add]
theorem count_G {rows : List Row} (hs : ∀ r ∈ rows, Signs r) {n : Nat} : ∀ (m : Nat) (p : List Nat), allHave rows p = true → ((seqs n m p).filter (allHave rows)).length = G rows n m p
  | 0, p, h => by
    show ([p].filter (allHave rows)).length = 1
    rw [List.filter_cons_of_pos h]
    rfl
  | m + 1, p, h => by
    show (((ext1 n p).flatMap (seqs n m)).filter (allHave rows)).length = ((next rows n p).map fun k => G rows n m (p ++ [k])).sum
    rw [filter_flatMap_len]
    unfold ext1 next
    rw [List.map_map]
    have e : (List.range n).filter (canNext rows p) = ((List.range n).filter fun k => !p.contains k).filter fun k => !rows.any (blocks p k) := by
      rw [List.filter_filter]
      congr 1
      funext k
      unfold canNext
      rw [Bool.and_comm]
    rw [e]
    refine sum_filter _ _ _ _ (fun k _ hk => ?_) fun k _ hk => ?_
    · exact count_G hs m (p ++ [k]) (by rw [allHave_next hs h]; exact hk)
    · exact bad_none m (p ++ [k]) (by rw [allHave_next hs h]; exact hk)
theorem allHave_nil (rows : List Row) : allHave rows [] = true := by
  unfold allHave
  rw [List.all_eq_true]
  intro r _
  rfl
theorem told_eq {rows : List Row} (hs : ∀ r ∈ rows, Signs r) (n : Nat) : told rows n = G rows n n [] := by
  unfold told
  rw [orders_seqs]
  exact count_G hs n [] (allHave_nil rows)
/-! what hangs on the members alone -/
def Alike (p q : List Nat) : Prop := ∀ a, a ∈ p ↔ a ∈ q
theorem plusIn_alike {r : Row} {p q : List Nat} (h : Alike p q) : plusIn r p = plusIn r q := by
  unfold plusIn
  rw [Bool.eq_iff_iff, List.any_eq_true, List.any_eq_true]
  constructor
  · rintro ⟨a, ha, e⟩; exact ⟨a, (h a).mp ha, e⟩
  · rintro ⟨a, ha, e⟩; exact ⟨a, (h a).mpr ha, e⟩
theorem canNext_alike {rows : List Row} {p q : List Nat} (h : Alike p q) : canNext rows p = canNext rows q := by
  funext k
  unfold canNext
  have e1 : p.contains k = q.contains k := by
    rw [Bool.eq_iff_iff, List.contains_iff_mem, List.contains_iff_mem]
    exact h k
  have e2 : blocks p k = blocks q k := by
    funext r
    unfold blocks
    rw [plusIn_alike h]
  rw [e1, e2]
theorem Alike.snoc {p q : List Nat} (h : Alike p q) (k : Nat) : Alike (p ++ [k]) (q ++ [k]) := fun a => by
  rw [List.mem_append, List.mem_append, h a]
theorem G_alike {rows : List Row} {n : Nat} : ∀ {m : Nat} {p q : List Nat}, Alike p q → G rows n m p = G rows n m q
  | 0, _, _, _ => rfl
  | m + 1, p, q, h => by
    show ((next rows n p).map fun k => G rows n m (p ++ [k])).sum = ((next rows n q).map fun k => G rows n m (q ++ [k])).sum
    unfold next
    rw [canNext_alike h]
    congr 1
    exact List.map_congr_left fun k _ => G_alike (h.snoc k)
theorem Alike.of_perm {p q : List Nat} (h : p.Perm q) : Alike p q := fun _ => h.mem_iff
theorem ext1_len (n : Nat) (s : List Nat) : (ext1 n s).length ≤ n := by
  unfold ext1
  rw [List.length_map]
  exact Nat.le_trans (List.length_filter_le _ _) (by rw [List.length_range]; exact Nat.le_refl n)
theorem flatMap_len_le {α β : Type} (f : α → List β) (n : Nat) (hf : ∀ a, (f a).length ≤ n) : ∀ l : List α, (l.flatMap f).length ≤ l.length * n
  | [] => by simp
  | a :: l => by
    rw [List.flatMap_cons, List.length_append, List.length_cons, Nat.add_mul, Nat.one_mul]
    have := flatMap_len_le f n hf l
    have := hf a
    omega
theorem orders_len (n : Nat) : ∀ t : Nat, (orders n t).length ≤ n ^ t
  | 0 => by simp [orders]
  | t + 1 => by
    show ((orders n t).flatMap (ext1 n)).length ≤ n ^ (t + 1)
    refine Nat.le_trans (flatMap_len_le _ n (ext1_len n) _) ?_
    rw [Nat.pow_succ]
    exact Nat.mul_le_mul_right n (orders_len n t)
theorem orders_mem (n : Nat) : ∀ (t : Nat) (s : List Nat), s ∈ orders n t → s.length = t ∧ (∀ a ∈ s, a < n) ∧ s.Nodup
  | 0, s, h => by
    have : s = [] := by simpa [orders] using h
    subst this
    exact ⟨rfl, fun _ h => absurd h List.not_mem_nil, List.nodup_nil⟩
  | t + 1, s, h => by
    obtain ⟨p, hp, hs⟩ := List.mem_flatMap.mp h
    obtain ⟨k, hk, rfl⟩ := List.mem_map.mp hs
    obtain ⟨e1, e2, e3⟩ := orders_mem n t p hp
    rw [List.mem_filter, List.mem_range] at hk
    refine ⟨by simp [e1], fun a ha => ?_, ?_⟩
    · rcases List.mem_append.mp ha with ha | ha
      · exact e2 a ha
      · rw [List.mem_singleton.mp ha]; exact hk.1
    · rw [List.nodup_append]
      refine ⟨e3, by simp, fun a ha b hb => ?_⟩
      rw [List.mem_singleton.mp hb]
      intro e
      subst e
      have := hk.2
      simp at this
      exact this ha
end RK
namespace RK
/-! words in their order -/
theorem lt_of_not : ∀ {a b : List Nat}, ¬ b < a → a ≠ b → a < b
  | [], [], _, h => absurd rfl h
  | [], _ :: _, _, _ => List.nil_lt_cons ..
  | _ :: _, [], h, _ => absurd (List.nil_lt_cons ..) h
  | x :: a, y :: b, h, hne => by
    rw [List.cons_lt_cons_iff] at h ⊢
    by_cases h1 : x < y
    · exact .inl h1
    · by_cases h2 : y < x
      · exact absurd (.inl h2) h
      · have e : x = y := by omega
        subst e
        refine .inr ⟨rfl, lt_of_not (fun z => h (.inr ⟨rfl, z⟩)) fun z => hne (by rw [z])⟩
theorem lt_asymm' {a b : List Nat} (h : a < b) : ¬ b < a := fun h2 => List.lt_irrefl a (List.lt_trans h h2)
/-- adjacent ones in order, all of them unlike: strictly ascending -/
def risingL : List Nat → List (List Nat) → Bool
  | _, [] => true
  | p, x :: r => !decide (x < p) && risingL x r
def sortedL : List (List Nat) → Bool
  | [] => true
  | x :: r => risingL x r
theorem rising_pw : ∀ {p : List Nat} {l : List (List Nat)}, risingL p l = true → (p :: l).Nodup → (p :: l).Pairwise (· < ·)
  | p, [], _, _ => List.pairwise_singleton _ _
  | p, x :: r, h, hn => by
    have h' : (!decide (x < p) && risingL x r) = true := h
    rw [Bool.and_eq_true, Bool.not_eq_true', decide_eq_false_iff_not] at h'
    have hn' := List.nodup_cons.mp hn
    have ih := rising_pw h'.2 hn'.2
    have hpx : p < x := lt_of_not h'.1 fun e => hn'.1 (by rw [e]; exact List.mem_cons_self)
    refine List.pairwise_cons.mpr ⟨fun y hy => ?_, ih⟩
    rcases List.mem_cons.mp hy with rfl | hy
    · exact hpx
    · exact List.lt_trans hpx (List.rel_of_pairwise_cons ih hy)
theorem sorted_pw {l : List (List Nat)} (h : sortedL l = true) (hn : l.Nodup) : l.Pairwise (· < ·) := by
  cases l with
  | nil => exact List.Pairwise.nil
  | cons p r => exact rising_pw h hn
theorem pw_unique : ∀ {l m : List (List Nat)}, l.Pairwise (· < ·) → m.Pairwise (· < ·) → l.Perm m → l = m
  | [], m, _, _, h => by rw [List.nil_perm.mp h]
  | x :: l, [], _, _, h => absurd h.length_eq (by simp)
  | x :: l, y :: m, h1, h2, h => by
    have a1 := List.pairwise_cons.mp h1
    have a2 := List.pairwise_cons.mp h2
    have e : x = y := by
      have hx := h.mem_iff.mp (List.mem_cons_self (a := x) (l := l))
      have hy := h.mem_iff.mpr (List.mem_cons_self (a := y) (l := m))
      rcases List.mem_cons.mp hx with e | hx
      · exact e
      · rcases List.mem_cons.mp hy with e | hy
        · exact e.symm
        · exact absurd (a1.1 y hy) (lt_asymm' (a2.1 x hx))
    subst e
    rw [pw_unique a1.2 a2.2 (List.Perm.cons_inv h)]
theorem pw_nodup {l : List (List Nat)} (h : l.Pairwise (· < ·)) : l.Nodup := h.imp fun {a b} hab e => by
  subst e
  exact List.lt_irrefl _ hab
theorem eraseIdx_map' {α β : Type} (f : α → β) : ∀ (l : List α) (i : Nat), (l.map f).eraseIdx i = (l.eraseIdx i).map f
  | [], _ => rfl
  | _ :: _, 0 => rfl
  | x :: l, i + 1 => by
    show f x :: (l.map f).eraseIdx i = f x :: (l.eraseIdx i).map f
    rw [eraseIdx_map' f l i]
theorem erase_perm {α : Type} : ∀ {l : List α} {i : Nat} {x : α}, l[i]? = some x → (x :: l.eraseIdx i).Perm l
  | [], _, _, h => by simp at h
  | y :: l, 0, x, h => by
    have e : y = x := by simpa using h
    subst e
    exact List.Perm.refl _
  | y :: l, i + 1, x, h => by
    have h' : l[i]? = some x := by simpa using h
    exact (List.Perm.swap y x _).trans ((erase_perm h').cons y)
theorem erase_len {α : Type} {l : List α} {i : Nat} (h : i < l.length) : (l.eraseIdx i).length + 1 = l.length := by
  rw [List.length_eraseIdx, if_pos h]
  omega
theorem mem_erase {α : Type} {l : List α} {i : Nat} {x : α} (h : x ∈ l.eraseIdx i) : x ∈ l := List.mem_of_mem_eraseIdx h
end RK
namespace RK
open PySem PySem.Spec PyProof.Rows L2 C8
open SX (S)
/-! the text by places -/
def top (i : Nat) : Stmt := PySem.Challenge.pw_rankedrules_k69_whole_certified_counts.main.body.getD i (.Pass ⟨0, 0, 0, 0⟩)
/-- a natural number, a row as values -/
abbrev nV (n : Nat) : V := .int (n : Int)
abbrev rowV (r : Row) : V := .str (S r)
/-- all that stood stands, but what stands at p -/
def But (p : Addr) (H H' : Hp) : Prop := ∀ b o, b ≠ p → H b = some o → H' b = some o
theorem But.refl (p : Addr) (H : Hp) : But p H H := fun _ _ _ h => h
theorem But.trans {p : Addr} {H H1 H2 : Hp} (a : But p H H1) (b : But p H1 H2) : But p H H2 := fun c o n h => b c o n (a c o n h)
theorem But.same {p : Addr} {H H1 H2 : Hp} (a : But p H H1) (b : Same H1 H2) : But p H H2 := fun c o n h => b c o (a c o n h)
theorem Same.but {p : Addr} {H H1 : Hp} (a : Same H H1) : But p H H1 := fun c o _ h => a c o h
theorem But.seqT {K : PySem.W.Frag} {p a : Addr} {H H' : Hp} {xs ys : List V} (e : But p H H') (hp : H p = some (.lst ys)) (h : SqT K H a xs) : SqT K H' a xs := by
  rcases h with (h | ⟨o, h⟩) | h
  · exact .inl (.inl (e _ _ (ne_of h hp (by intro q; cases q)) h))
  · exact .inl (.inr ⟨o, e _ _ (ne_of h hp (by intro q; cases q)) h⟩)
  · exact .inr h
theorem But.seqL {K : PySem.W.Frag} {p a : Addr} {H H' : Hp} {xs : List V} (e : But p H H') (n : a ≠ p) (h : SqL K H a xs) : SqL K H' a xs := by
  rcases h with (h | ⟨o, h⟩) | h
  · exact .inl (.inl (e _ _ n h))
  · exact .inl (.inr ⟨o, e _ _ n h⟩)
  · exact .inr h
theorem Same.seqT {K : PySem.W.Frag} {H H' : Hp} {a : Addr} {xs : List V} (e : Same H H') (h : SqT K H a xs) : SqT K H' a xs := by
  rcases h with (h | ⟨o, h⟩) | h
  · exact .inl (.inl (e _ _ h))
  · exact .inl (.inr ⟨o, e _ _ h⟩)
  · exact .inr h
theorem same_new {H : Hp} {p : Addr} {o : HO} (h : H p = none) : Same H (upd H p o) := fun b x e => by
  rw [upd_ne (ne_of_none e h)]
  exact e
theorem map_at {α β : Type} {f : α → β} {l : List α} {i : Nat} {y : β} (h : (l.map f)[i]? = some y) : ∃ x, l[i]? = some x ∧ y = f x := by
  rw [List.getElem?_map] at h
  cases e : l[i]? with
  | none => rw [e] at h; cases h
  | some x => rw [e] at h; exact ⟨x, rfl, (Option.some.inj h).symm⟩
end RK
set_option Elab.async false
set_option linter.all false
set_option maxRecDepth 100000
namespace RK
open PySem PySem.Spec PyProof.Rows L2 C8
open SX (S)
section
variable {P : Program} {w : World} {K : PySem.W.Frag} {mg : Str → Option Value} {base : Heap}
/-! _law_has -/
abbrev nHas : List Str := ["_law_row_here", "_law_order_here", "_law_at"]
theorem scHas : FnScope nHas (nHas.take 2) (fnScope (top 66)) := fnScope_by (by decide +kernel)
def spHas (K : PySem.W.Frag) : Sp := fun vs H Q _ => ∃ (r : Row) (o : Addr) (os : List Nat), vs = [rowV r, .ref o] ∧ SqT K H o (os.map nV) ∧ (∀ a ∈ os, a < r.length) ∧ r.length ≤ 8 ∧ Q (.bl (has r os)) H
theorem sg_at {r : Row} {a : Nat} (h : a < r.length) : atI (S r).cps.toList (a : Int) = some (sg r a) := by
  refine atI_nat ?_
  show r[a]? = some (r.getD a 46)
  rw [List.getD_eq_getElem?_getD, List.getElem?_eq_getElem h]
  rfl
theorem sign_eq (c d : Nat) : decide (V.str ⟨#[c]⟩ = V.str ⟨#[d]⟩) = (c == d) := by
  rw [Bool.eq_iff_iff, decide_eq_true_iff, beq_iff_eq]
  constructor
  · intro h
    injection h with h
    injection h with h
    have := congrArg Array.toList h
    simpa using this
  · rintro rfl; rfl
theorem ok_has {f : Addr} {fd : FuncData} (F : Def K mg "_law_has" (top 66) f fd) (b : Binds K fd (nHas.take 2) []) : Cal P w K mg base 1 "_law_has" (spHas K) [] := by
  refine cal0 F b .nil scHas (fun vs H Q E h => ?_) (fun cdv A outer s H vs Q E hr h => ?_)
  · obtain ⟨r, o, os, rfl, _⟩ := h
    rfl
  · obtain ⟨r, o, os, rfl, hT, hlt, hl, k⟩ := h
    refine ⟨_, pss_cons (ps_for PassesOwn.never rfl (pi_tup (pv 1)) (pg_name (i := 2) scHas.nd rfl (Or.inl rfl))
        (pss_one (ps_if (pt_cmpR op_ne (pe_ix ix_str (pv 0) (pv 2) (fun _ _ => rfl)) pe_str (nomark _))
          (pss_one (ps_ret (pe_cmpR op_eq (pe_ix ix_str (pv 0) (pv 2) (fun _ _ => rfl)) pe_str (nomark _)))) pss_nil)))
      (pss_one (ps_ret pe_bl)), ?_⟩
    refine ⟨_, rfl, o, rfl, ⟨_, hT⟩, for_tup (K := K) (a := o) (xs := os.map nV) (fun i σ H' => ∃ v, σ = [some (rowV r), some (.ref o), v] ∧ H' = H ∧ has r (os.drop i) = has r os)
      ⟨_, rfl, rfl, rfl⟩ (fun i σ H' _ ⟨_, _, e, _⟩ => by rw [e]; exact hT) ?_ ?_⟩
    · rintro i y σ H' hi ⟨v, rfl, rfl, e⟩
      obtain ⟨a, ha, rfl⟩ := map_at hi
      have hlt' := hlt a (List.mem_of_getElem? ha)
      have e1 : os.drop i = a :: os.drop (i + 1) := by
        obtain ⟨h1, h2⟩ := List.getElem?_eq_some_iff.mp ha
        rw [List.drop_eq_getElem_cons h1, h2]
      rw [e1] at e
      have e : (if sg r a = 46 then has r (os.drop (i + 1)) else sg r a == 43) = has r os := e
      have hz : (S r).length ≤ sizeLine := by rw [SX.S_len]; exact Nat.le_trans hl (by decide)
      refine ⟨_, rfl, _, rfl, _, _, _, rfl, rfl, hz, sg_at hlt', rfl, _, rfl, ?_⟩
      rw [show (V.str ("." : Str)) = V.str ⟨#[46]⟩ from rfl, sign_eq]
      by_cases h46 : sg r a = 46
      · rw [if_pos h46] at e
        rw [h46]
        exact ⟨_, rfl, rfl, e⟩
      · rw [if_neg h46] at e
        have hb : (sg r a == 46) = false := by simpa using h46
        rw [hb]
        refine ⟨_, rfl, _, rfl, _, _, _, rfl, rfl, hz, sg_at hlt', rfl, ?_⟩
        rw [show (V.str ("+" : Str)) = V.str ⟨#[43]⟩ from rfl, sign_eq, e]
        exact k
    · rintro σ H' ⟨v, rfl, rfl, e⟩
      rw [List.length_map, List.drop_length] at e
      show Q (.bl true) H'
      rw [show true = has r os from e]
      exact k
end
end RK
set_option Elab.async false
set_option linter.all false
set_option maxRecDepth 100000
namespace RK
open PySem PySem.Spec PyProof.Rows L2 C8
open SX (S)
section
variable {P : Program} {w : World} {K : PySem.W.Frag} {mg : Str → Option Value} {base : Heap}
/-! _law_cast -/
def Pail (H : Hp) (p : Addr) (c : Nat) : Prop := ∃ x y z : Int, H p = some (.lst [.int x, .int y, .int z]) ∧ 0 ≤ x ∧ 0 ≤ y ∧ y < 2147483629 ∧ 0 ≤ z ∧ z ≤ (c : Int)
theorem Pail.le {H : Hp} {p : Addr} {c d : Nat} (h : Pail H p c) (l : c ≤ d) : Pail H p d := by
  obtain ⟨x, y, z, h1, h2, h3, h4, h5, h6⟩ := h
  exact ⟨x, y, z, h1, h2, h3, h4, h5, by omega⟩
theorem Pail.lst {H : Hp} {p : Addr} {c : Nat} (h : Pail H p c) : ∃ ys, H p = some (.lst ys) := by
  obtain ⟨x, y, z, h1, _⟩ := h
  exact ⟨_, h1⟩
theorem Pail.same {H H' : Hp} {p : Addr} {c : Nat} (h : Pail H p c) (e : Same H H') : Pail H' p c := by
  obtain ⟨x, y, z, h1, h2⟩ := h
  exact ⟨x, y, z, e _ _ h1, h2⟩
abbrev nCast : List Str := ["_law_pail", "_law_many", "_law_figure", "_law_state"]
theorem scCast : FnScope nCast (nCast.take 2) (fnScope (top 62)) := fnScope_by (by decide +kernel)
def spCast : Sp := fun vs H Q _ => ∃ (p : Addr) (m c : Nat), vs = [.ref p, nV m] ∧ Pail H p c ∧ 1 ≤ m ∧ m ≤ 1000 ∧ c ≤ 1000000 ∧ ∀ (H' : Hp) (r : Nat), But p H H' → Pail H' p (c + 1) → r < m → Q (nV r) H'
theorem ok_cast {f : Addr} {fd : FuncData} (F : Def K mg "_law_cast" (top 62) f fd) (b : Binds K fd (nCast.take 2) []) (mD : mg "divmod" = none) (mI : mg "int" = none) : Cal P w K mg base 1 "_law_cast" spCast [] := by
  refine cal0 F b .nil scCast (fun vs H Q E h => ?_) (fun cdv A outer s H vs Q E hr h => ?_)
  · obtain ⟨p, m, c, rfl, _⟩ := h
    rfl
  · obtain ⟨p, m, c, rfl, hP, h1, h2, hc, k⟩ := h
    obtain ⟨x, y, z, hp, hx, hy0, hy1, hz0, hz1⟩ := hP
    refine ⟨_, pss_cons (ps_if (pt_cmpR op_gt (pe_ix ix_list (pv 0) pe_int (fun _ _ => rfl)) pe_int (nomark _))
        (pss_cons (ps_asg (pe_callB call_divmod (by rfl) mD (by decide +kernel) (pa_cons (pe_ix ix_list (pv 0) pe_int (fun _ _ => rfl)) (pa_cons (pv 1) pa_nil)))
            (pg_tup (by rfl) (pgs_cons (pg_sub (pv 0) pe_int set_list) (pgs_cons (pg_name (i := 2) scCast.nd rfl (Or.inl rfl)) pgs_nil))))
          (pss_one (ps_ret (pv 2)))) pss_nil)
      (pss_cons (ps_asg (pe_op op_add (pe_ix ix_list (pv 0) pe_int (fun _ _ => rfl)) pe_int) (pg_sub (pv 0) pe_int set_list))
      (pss_cons (ps_set (i := 3) scCast.nd rfl (Or.inl rfl) (pe_op op_mod (pe_callTy call_int1 (by rfl) mI (by decide +kernel) (pa_cons
          (pe_op op_add (pe_op op_add (pe_op op_mul (pe_ix ix_list (pv 0) pe_int (fun _ _ => rfl)) (pe_op op_add pe_int (pe_op op_mul pe_int (pe_ix ix_list (pv 0) pe_int (fun _ _ => rfl)))))
            (pe_op op_mul pe_int (pe_ix ix_list (pv 0) pe_int (fun _ _ => rfl)))) pe_int) pa_nil)) pe_int))
      (pss_cons (ps_asg (pe_op op_mod (pe_callTy call_int1 (by rfl) mI (by decide +kernel) (pa_cons
          (pe_op op_add (pe_op op_add (pe_op op_mul (pv 3) pe_int) (pe_op op_mul pe_int (pe_ix ix_list (pv 0) pe_int (fun _ _ => rfl)))) pe_int) pa_nil)) pe_int) (pg_sub (pv 0) pe_int set_list))
      (pss_one (ps_ret (pe_op op_mod (pe_callTy call_int1 (by rfl) mI (by decide +kernel) (pa_cons (pe_op op_fdiv (pe_ix ix_list (pv 0) pe_int (fun _ _ => rfl)) pe_int) pa_nil)) (pv 1))))))), ?_⟩
    refine ⟨_, rfl, p, _, 0, _, rfl, rfl, SqL.of hp, rfl, _, _, rfl, rfl, _, rfl, ite2 (fun e => ?_) (fun e => ?_)⟩
    · refine ⟨_, rfl, p, _, 0, _, rfl, rfl, SqL.of hp, rfl, _, rfl, x, (m : Int), rfl, ⟨by omega, by omega⟩, fun T hT => ?_⟩
      have nTp : p ≠ T := ne_of_none hp hT
      refine ⟨T, _, rfl, SqT.of upd_same, rfl, _, _, rfl, _, rfl, p, _, 0, 0, rfl, rfl, by rw [upd_ne nTp]; exact hp, rfl, _, _, rfl, rfl, ?_⟩
      obtain ⟨r, hr⟩ : ∃ r : Nat, x % (m : Int) = r := ⟨(x % (m : Int)).toNat, by have := Int.emod_nonneg x (show (m : Int) ≠ 0 by omega); omega⟩
      have hlt : x % (m : Int) < m := Int.emod_lt_of_pos x (by omega)
      refine ⟨_, rfl, ?_⟩
      rw [hr]
      refine k _ r (fun b o n q => ?_) ⟨x / m, y, z, by rw [upd_same]; rfl, Int.ediv_nonneg hx (by omega), hy0, hy1, hz0, by omega⟩ (by omega)
      rw [upd_ne n]
      exact same_new hT b o q
    · refine ⟨_, rfl, p, _, 2, _, rfl, rfl, SqL.of hp, rfl, _, _, rfl, rfl, _, rfl, p, _, 2, 2, rfl, rfl, hp, rfl, ?_⟩
      refine ⟨_, rfl, p, _, 1, _, rfl, rfl, SqL.of upd_same, rfl, _, rfl, p, _, 2, _, rfl, rfl, SqL.of upd_same, rfl, _, _, rfl, rfl, .inl ⟨by decide, by decide⟩, _, _, rfl, rfl, _, _, rfl, rfl, .inl ⟨by omega, by omega⟩,
        _, rfl, p, _, 2, _, rfl, rfl, SqL.of upd_same, rfl, _, _, rfl, rfl, .inl ⟨by decide, by decide⟩, _, _, rfl, rfl, _, _, rfl, rfl, .inl ⟨_, rfl, _, _, rfl, rfl, (by show (0 : Int) < 2147483629; decide), ?_⟩⟩
      obtain ⟨st, hs⟩ : ∃ st, (y * (36809 + 2 * (z + 1)) + 5303 * (z + 1) + 7) % 2147483629 = st := ⟨_, rfl⟩
      have hst : 0 ≤ st ∧ st < 2147483629 := by omega
      refine ⟨_, rfl, _, _, rfl, rfl, .inl ⟨by omega, by omega⟩, _, rfl, p, _, 2, _, rfl, rfl, SqL.of upd_same, rfl, _, _, rfl, rfl, .inl ⟨by decide, by decide⟩, _, _, rfl, rfl, _, _, rfl, rfl,
        .inl ⟨_, rfl, _, _, rfl, rfl, (by show (0 : Int) < 2147483587; decide), ?_⟩⟩
      obtain ⟨y2, ht⟩ : ∃ y2, (st * 45413 + 3 * (z + 1) + 1) % 2147483587 = y2 := ⟨_, rfl⟩
      have hy2 : 0 ≤ y2 ∧ y2 < 2147483587 := by omega
      refine ⟨_, rfl, p, _, 1, 1, rfl, rfl, upd_same, rfl, ?_⟩
      refine ⟨_, rfl, p, _, 1, _, rfl, rfl, SqL.of upd_same, rfl, _, _, rfl, rfl, ⟨by decide, by decide⟩, .inl ⟨_, rfl, _, rfl, _, _, rfl, rfl, (by show (0 : Int) < (m : Int); omega), ?_⟩⟩
      obtain ⟨r, hr⟩ : ∃ r : Nat, (y2 / 256) % (m : Int) = r := ⟨((y2 / 256) % (m : Int)).toNat, by have := Int.emod_nonneg (y2 / 256) (show (m : Int) ≠ 0 by omega); omega⟩
      have hlt : (y2 / 256) % (m : Int) < m := Int.emod_lt_of_pos _ (by omega)
      have hr' : (((y * (36809 + 2 * (z + 1)) + 5303 * (z + 1) + 7) % 2147483629 * 45413 + 3 * (z + 1) + 1) % 2147483587 / 256) % (m : Int) = r := by rw [hs, ht, hr]
      show Q (.int ((((y * (36809 + 2 * (z + 1)) + 5303 * (z + 1) + 7) % 2147483629 * 45413 + 3 * (z + 1) + 1) % 2147483587 / 256) % (m : Int))) _
      rw [hr']
      refine k _ r (fun b o n q => ?_) ⟨x, y2, z + 1, ?_, hx, hy2.1, by omega, by omega, by omega⟩ (by omega)
      rotate_left
      · rw [upd_same, ← ht, ← hs]
        rfl
      rw [upd_ne n, upd_ne n]
      exact q
end
end RK
set_option Elab.async false
set_option linter.all false
set_option maxRecDepth 100000
namespace RK
open PySem PySem.Spec PyProof.Rows L2 C8
open SX (S)
section
variable {P : Program} {w : World} {K : PySem.W.Frag} {mg : Str → Option Value} {base : Heap}
/-! _law_any_of -/
abbrev nAny : List Str := ["_law_pail", "_law_some"]
theorem scAny : FnScope nAny (nAny.take 2) (fnScope (top 63)) := fnScope_by (by decide +kernel)
def spAny (K : PySem.W.Frag) : Sp := fun vs H Q _ => ∃ (p l : Addr) (c : Nat) (xs : List V), vs = [.ref p, .ref l] ∧ Pail H p c ∧ SqL K H l xs ∧ l ≠ p ∧ 1 ≤ xs.length ∧ xs.length ≤ 1000 ∧ c ≤ 1000000 ∧
  ∀ (H' : Hp) (x : V), But p H H' → Pail H' p (c + 1) → x ∈ xs → Q x H'
theorem ok_any {f : Addr} {fd : FuncData} (F : Def K mg "_law_any_of" (top 63) f fd) (b : Binds K fd (nAny.take 2) []) (cCast : Cal P w K mg base 1 "_law_cast" spCast []) (mL : mg "len" = none) :
    Cal P w K mg base 2 "_law_any_of" (spAny K) [] := by
  refine cal0 F b .nil scAny (fun vs H Q E h => ?_) (fun cdv A outer s H vs Q E hr h => ?_)
  · obtain ⟨p, l, c, xs, rfl, _⟩ := h
    rfl
  · obtain ⟨p, l, c, xs, rfl, hP, hS, hne, h1, h2, hc, k⟩ := h
    refine ⟨_, pss_one (ps_ret (pe_ix ix_list (pv 1) (pe_c cCast hr (by decide) (by rfl) (pa_cons (pv 0) (pa_cons (pe_callB call_len_seq (by rfl) mL PySem.boot_len (pa_cons (pv 1) pa_nil)) pa_nil))) (fun _ _ => rfl))), ?_⟩
    refine ⟨_, rfl, _, rfl, _, rfl, l, xs, rfl, .inl hS, p, xs.length, c, rfl, hP, h1, h2, hc, fun H' r hb hP' hr' => ?_⟩
    refine ⟨l, xs, _, xs[r], rfl, rfl, hb.seqL hne hS, atI_nat (List.getElem?_eq_getElem hr'), ?_⟩
    exact k H' _ hb hP' (List.getElem_mem hr')
/-! _law_row -/
abbrev nRow : List Str := ["_law_pail", "_law_many", "_law_k"]
theorem scRow : FnScope nRow (nRow.take 2) (fnScope (top 64)) := fnScope_by (by decide +kernel)
def spRow : Sp := fun vs H Q _ => ∃ (p : Addr) (m c : Nat), vs = [.ref p, nV m] ∧ Pail H p c ∧ m ≤ 8 ∧ c + 8 ≤ 1000000 ∧
  ∀ (H' : Hp) (r : Row), But p H H' → Pail H' p (c + m) → r.length = m → Signs r → Q (rowV r) H'
theorem joinL_signs : ∀ r : List Nat, TL.joinL [] (r.map fun c => [c]) = r
  | [] => rfl
  | [c] => rfl
  | c :: d :: r => by
    show [c] ++ ([] ++ TL.joinL [] ((d :: r).map fun c => [c])) = c :: d :: r
    rw [joinL_signs (d :: r)]
    rfl
theorem join_signs (r : List Nat) : Txt.join (S []) (r.map fun c => S [c]) = S r := by
  have e := SX.join_S [] (r.map fun c => [c])
  rw [List.map_map, joinL_signs] at e
  exact e
theorem sum_ones {α : Type} : ∀ r : List α, (r.map fun _ => 1).sum = r.length
  | [] => rfl
  | _ :: r => by rw [List.map_cons, List.sum_cons, sum_ones r, List.length_cons, Nat.add_comm]
theorem signs_size (r : List Nat) : ((r.map fun c => S [c]).map (·.length)).sum = r.length := by
  rw [List.map_map]
  exact sum_ones r
theorem ok_row {f : Addr} {fd : FuncData} (F : Def K mg "_law_row" (top 64) f fd) (b : Binds K fd (nRow.take 2) []) (cAny : Cal P w K mg base 2 "_law_any_of" (spAny K) []) (mR : mg "range" = none) :
    Cal P w K mg base 3 "_law_row" spRow [] := by
  refine cal0 F b .nil scRow (fun vs H Q E h => ?_) (fun cdv A outer s H vs Q E hr h => ?_)
  · obtain ⟨p, m, c, rfl, _⟩ := h
    rfl
  · obtain ⟨p, m, c, rfl, hP, h1, hc, k⟩ := h
    refine ⟨_, pss_one (ps_ret (pe_join pe_str (pe_lc (own := [("_law_k", 2)]) (g := gName 2) (tt := tYes) (by rfl) scRow.nd (pi_range1 (by rfl) mR (pa_cons (pv 1) pa_nil))
        (blkOk_by (own := [("_law_k", 2)]) (N := nRow) (sc := fnScope (top 64)) (by decide +kernel)) (fun _ _ _ _ _ => pg_name (i := 2) scRow.nd rfl (Or.inl rfl)) (fun _ _ _ _ _ => pts_nil)
        (fun _ _ _ _ _ => pe_c cAny hr (by decide) (by rfl) (pa_cons (pv 0) (pa_cons (pe_lst (pa_cons pe_str (pa_cons pe_str (pa_cons pe_str (pa_cons pe_str pa_nil))))) pa_nil)))))), ?_⟩
    refine ⟨⟨_, rfl⟩, _, rfl, (m : Int), rfl, by omega, by omega, fun D hD => ?_⟩
    obtain ⟨ys, hy⟩ := hP.lst
    have nDp : p ≠ D := ne_of_none hy hD
    refine lc_range (lo := 0) (n := (m : Int).toNat) (fun i H' => ∃ r : Row, H' D = some (.lst (r.map fun c => V.str (S [c]))) ∧ r.length = i ∧ Signs r ∧ But p H H' ∧ Pail H' p (c + i))
      ⟨[], upd_same, rfl, fun _ h => absurd h List.not_mem_nil, Same.but (same_new hD), hP.same (same_new hD)⟩ ?_ ?_
    · rintro i H' hi ⟨r, e1, e2, e3, e4, e5⟩
      refine ⟨rfl, _, rfl, by decide, fun q hq => ?_⟩
      obtain ⟨y2, hy2⟩ := e5.lst
      have nqp : p ≠ q := ne_of_none hy2 hq
      have nqD : D ≠ q := ne_of_none e1 hq
      refine ⟨p, q, c + i, _, rfl, e5.same (same_new hq), SqL.of upd_same, nqp.symm, by show 1 ≤ 4; omega, by show 4 ≤ 1000; omega, by omega, fun H2 x hb hP2 hx => ?_⟩
      have hx' : ∃ d : Nat, x = V.str (S [d]) ∧ (d = 43 ∨ d = 45 ∨ d = 46) := by
        rcases List.mem_cons.mp hx with e | hx
        · exact ⟨43, e, .inl rfl⟩
        rcases List.mem_cons.mp hx with e | hx
        · exact ⟨45, e, .inr (.inl rfl)⟩
        rcases List.mem_cons.mp hx with e | hx
        · exact ⟨46, e, .inr (.inr rfl)⟩
        rcases List.mem_cons.mp hx with e | hx
        · exact ⟨46, e, .inr (.inr rfl)⟩
        · cases hx
      obtain ⟨d, rfl, hd⟩ := hx'
      have eD : H2 D = some (.lst (r.map fun c => V.str (S [c]))) := hb _ _ nDp.symm (by rw [upd_ne nqD]; exact e1)
      refine ⟨_, eD, small1000 (by rw [List.length_map]; omega), r ++ [d], ?_, by simp [e2], ?_, ?_, ?_⟩
      · rw [upd_same, List.map_append]
        rfl
      · intro z hz
        rcases List.mem_append.mp hz with hz | hz
        · exact e3 z hz
        · rw [List.mem_singleton.mp hz]; exact hd
      · intro z o n q2
        have nzD : z ≠ D := fun e => by rw [e, hD] at q2; cases q2
        rw [upd_ne nzD]
        exact hb _ _ n (same_new hq _ _ (e4 _ _ n q2))
      · obtain ⟨x1, x2, x3, g1, g2⟩ := hP2
        exact ⟨x1, x2, x3, by rw [upd_ne nDp]; exact g1, g2⟩
    · rintro H' ⟨r, e1, e2, e3, e4, e5⟩
      have em : r.length = m := by omega
      refine ⟨_, D, r.map fun c => S [c], rfl, rfl, .inl (SqL.of (by rw [List.map_map]; exact e1)), ?_, ?_⟩
      · rw [signs_size, List.length_map]
        show r.length + r.length * 0 ≤ _
        omega
      · show Q (.str (Txt.join (S []) (r.map fun c => S [c]))) H'
        rw [join_signs]
        exact k H' r e4 (by have := e5; rwa [show c + (m : Int).toNat = c + m by omega] at this) em e3
end
end RK
set_option Elab.async false
set_option linter.all false
set_option maxRecDepth 100000
namespace RK
open PySem PySem.Spec PyProof.Rows L2 C8
open SX (S)
section
variable {P : Program} {w : World} {K : PySem.W.Frag} {mg : Str → Option Value} {base : Heap}
/-! a comprehension's list so far -/
structure Acc (D : Addr) (H0 : Hp) (xs : List V) (H' : Hp) : Prop where
  at_ : H' D = some (.lst xs)
  sm : Same H0 H'
theorem acc_start {D : Addr} {H0 : Hp} (nD : H0 D = none) : Acc D H0 [] (upd H0 D (.lst [])) := ⟨upd_same, same_new nD⟩
theorem acc_step {D : Addr} {H0 H' H4 : Hp} {xs ys : List V} {y : V} (nD : H0 D = none) (h : Acc D H0 xs H') (e : Same H' H4) (hl : xs.length ≤ 100000) (ey : ys = xs ++ [y]) :
    ∃ acc, H4 D = some (.lst acc) ∧ acc.length < sizeLine ∧ Acc D H0 ys (upd H4 D (.lst (acc ++ [y]))) := by
  refine ⟨xs, e _ _ h.at_, Nat.lt_of_le_of_lt hl (by decide), by rw [upd_same, ey], fun b o q => ?_⟩
  have n : b ≠ D := fun z => by rw [z, nD] at q; cases q
  rw [upd_ne n]
  exact e _ _ (h.sm _ _ q)
theorem acc_keep {D : Addr} {H0 H' H4 : Hp} {xs ys : List V} (h : Acc D H0 xs H') (e : Same H' H4) (ey : ys = xs) : Acc D H0 ys H4 := ⟨by rw [ey]; exact e _ _ h.at_, h.sm.trans e⟩
theorem take_snoc {α : Type} {l : List α} {i : Nat} {x : α} (h : l[i]? = some x) : l.take (i + 1) = l.take i ++ [x] := by
  rw [List.take_add_one, h]
  rfl
theorem take_filter {α β : Type} (q : α → Bool) (f : α → β) {l : List α} {i : Nat} {x : α} (h : l[i]? = some x) (e : q x = true) : ((l.take (i + 1)).filter q).map f = ((l.take i).filter q).map f ++ [f x] := by
  rw [take_snoc h, List.filter_append, List.map_append, List.filter_cons_of_pos e]
  rfl
theorem take_drop_out {α β : Type} (q : α → Bool) (f : α → β) {l : List α} {i : Nat} {x : α} (h : l[i]? = some x) (e : q x = false) : ((l.take (i + 1)).filter q).map f = ((l.take i).filter q).map f := by
  rw [take_snoc h, List.filter_append, List.filter_cons_of_neg (by simp [e]), List.filter_nil, List.append_nil]
theorem take_map {α β : Type} (f : α → β) {l : List α} {i : Nat} {x : α} (h : l[i]? = some x) : (l.take (i + 1)).map f = (l.take i).map f ++ [f x] := by
  rw [take_snoc h, List.map_append]
  rfl
theorem at_of_lt {α : Type} {l : List α} {i : Nat} (h : i < l.length) : ∃ x, l[i]? = some x := ⟨l[i], List.getElem?_eq_getElem h⟩
theorem take_len {α β : Type} (f : α → β) (l : List α) (i : Nat) : ((l.take i).map f).length ≤ l.length := by
  rw [List.length_map, List.length_take]; exact Nat.min_le_right _ _
theorem take_flen {α β : Type} (q : α → Bool) (f : α → β) (l : List α) (i : Nat) : (((l.take i).filter q).map f).length ≤ l.length := by
  rw [List.length_map]
  exact Nat.le_trans (List.length_filter_le _ _) (by rw [List.length_take]; exact Nat.min_le_right _ _)
/-! data of texts -/
theorem dp_strs {K : PySem.W.Frag} {H : Hp} : ∀ l : List Str, DpAll K H (l.map V.str) (l.map PyData.str)
  | [] => .nil
  | x :: l => .cons (.str x) (dp_strs l)
theorem lay_strs : ∀ l : List Str, (∀ x ∈ l, PyData.strOk x = true) → PyData.canLayAll0 (l.map PyData.str) = true
  | [], _ => rfl
  | x :: l, h => by
    show (PyData.strOk x && PyData.canLayAll0 (l.map PyData.str)) = true
    rw [h x List.mem_cons_self, lay_strs l fun y hy => h y (List.mem_cons_of_mem _ hy)]
    rfl
theorem depth_strs : ∀ l : List Str, PyData.depthAll (l.map PyData.str) = 0
  | [] => rfl
  | x :: l => by
    show max 0 (PyData.depthAll (l.map PyData.str)) = 0
    rw [depth_strs l]
    rfl
theorem shaped_strs {l : List Str} (h : ∀ x ∈ l, PyData.strOk x = true) : SeqAt.shaped (.list (l.map PyData.str)) = true := by
  unfold SeqAt.shaped
  rw [Bool.and_eq_true]
  refine ⟨lay_strs l h, decide_eq_true ?_⟩
  show PyData.depthAll (l.map PyData.str) + 1 ≤ 64
  rw [depth_strs]
  decide
theorem strOk_S {l : List Nat} (h : ∀ c ∈ l, c < 1114112) : PyData.strOk (S l) = true := by
  unfold PyData.strOk
  rw [← Array.all_toList, List.all_eq_true]
  intro c hc
  exact decide_eq_true (h c hc)
theorem signs_ok {r : Row} (h : Signs r) : PyData.strOk (S r) = true := strOk_S fun c hc => by
  rcases h c hc with e | e | e <;> omega
/-! _law_other_way -/
abbrev nOther : List Str := ["_law_row_here", "_law_sign"]
theorem scOther : FnScope nOther (nOther.take 1) (fnScope (top 65)) := fnScope_by (by decide +kernel)
def spOther : Sp := fun vs H Q _ => ∃ r : Row, vs = [rowV r] ∧ r.length ≤ 8 ∧ Signs r ∧ ∀ (H' : Hp) (r' : Row), Same H H' → r'.length = r.length → Signs r' → Q (rowV r') H'
def flip (c : Nat) : Nat := if c = 43 then 45 else if c = 45 then 43 else 46
abbrev kvFlip : List (Key × V) := [(Sum.inr "+", .str "-"), (Sum.inr "-", .str "+"), (Sum.inr ".", .str ".")]
theorem flip_get {c : Nat} (h : c = 43 ∨ c = 45 ∨ c = 46) : valV (mergeK [] kvFlip) (Sum.inr (S [c])) = some (.str (S [flip c])) := by
  rcases h with rfl | rfl | rfl <;> decide +kernel
theorem ok_other {f : Addr} {fd : FuncData} (F : Def K mg "_law_other_way" (top 65) f fd) (b : Binds K fd (nOther.take 1) []) : Cal P w K mg base 1 "_law_other_way" spOther [] := by
  refine cal0 F b .nil scOther (fun vs H Q E h => ?_) (fun cdv A outer s H vs Q E hr h => ?_)
  · obtain ⟨r, rfl, _⟩ := h
    rfl
  · obtain ⟨r, rfl, h1, hs, k⟩ := h
    have hu := hu_of hr
    refine ⟨_, pss_one (ps_ret (pe_join pe_str (pe_lc (own := [("_law_sign", 1)]) (g := gName 1) (tt := tYes) (by rfl) scOther.nd (pi_str (pv 0))
        (blkOk_by (own := [("_law_sign", 1)]) (N := nOther) (sc := fnScope (top 65)) (by decide +kernel)) (fun _ _ _ _ _ => pg_name (i := 1) scOther.nd rfl (Or.inl rfl)) (fun _ _ _ _ _ => pts_nil)
        (fun _ _ _ _ _ => pe_dget hu (pe_disp (pps_cons pe_str pe_str (pps_cons pe_str pe_str (pps_cons pe_str pe_str pps_nil))) (by rfl) (by rfl) (fun z => by cases z) (by decide)) (pv 1) (fun _ _ => rfl))))), ?_⟩
    refine ⟨⟨_, rfl⟩, _, rfl, _, rfl, fun D hD => ?_⟩
    refine lc_it walk_str (fun i H' => Acc D H ((r.take i).map fun c => V.str (S [flip c])) H') (acc_start hD) (fun _ _ _ _ => trivial) ?_ ?_
    · rintro i x H' H'' hi hA ⟨rfl, c, hc, rfl⟩
      have hc : r[i]? = some c := by
        have e : (S r).cps[i]? = r[i]? := by simp
        rw [e] at hc
        exact hc
      refine ⟨rfl, fun q hq => ⟨upd_same, kvFlip, rfl, by decide, ?_⟩⟩
      refine ⟨_, rfl, q, V.str (S [flip c]), rfl, ?_, ?_⟩
      · have g := DGet.k (k := Sum.inr (S [c])) (a := q) (H := upd (upd H'' q (.dK [])) q (.dK (mergeK [] kvFlip))) upd_same
        rw [flip_get (hs c (List.mem_of_getElem? hc))] at g
        exact g
      · refine acc_step hD hA (fun b o z => ?_) (Nat.le_trans (take_len _ _ _) (by omega)) (take_map _ hc)
        rw [upd_upd]
        exact same_new hq _ _ z
    · intro H' hA
      have e : (r.take (S r).cps.size).map (fun c => V.str (S [flip c])) = ((r.map flip).map fun c => S [c]).map V.str := by
        rw [show (S r).cps.size = r.length by simp, List.take_length, List.map_map, List.map_map]
        rfl
      have hA1 := hA.at_
      rw [e] at hA1
      refine ⟨S [], D, (r.map flip).map fun c => S [c], rfl, rfl, .inl (SqL.of hA1), ?_, ?_⟩
      · rw [signs_size, List.length_map, List.length_map]
        show r.length + r.length * 0 ≤ _
        omega
      · show Q (.str (Txt.join (S []) ((r.map flip).map fun c => S [c]))) H'
        rw [join_signs]
        refine k H' _ hA.sm (List.length_map _) fun c hc => ?_
        obtain ⟨d, hd, rfl⟩ := List.mem_map.mp hc
        rcases hs d hd with e | e | e <;> subst e <;> decide
/-! _law_all_have -/
abbrev nAllH : List Str := ["_law_rows_here", "_law_order_here", "_law_row_here"]
theorem scAllH : FnScope nAllH (nAllH.take 2) (fnScope (top 67)) := fnScope_by (by decide +kernel)
def RowsOk (n : Nat) (rows : List Row) : Prop := ∀ r ∈ rows, r.length = n ∧ Signs r
def spAllH (K : PySem.W.Frag) : Sp := fun vs H Q _ => ∃ (a o n : Nat) (rows : List Row) (os : List Nat), vs = [.ref a, .ref o] ∧ SqT K H a (rows.map rowV) ∧ SqT K H o (os.map nV) ∧ n ≤ 8 ∧ rows.length ≤ 100 ∧ RowsOk n rows ∧ (∀ j ∈ os, j < n) ∧
  ∀ H' : Hp, Same H H' → Q (.bl (allHave rows os)) H'
theorem eqv_nil : ∀ l : List PyData, PyData.eqv (.list l) (.list []) = l.isEmpty
  | [] => rfl
  | _ :: _ => rfl
theorem ok_allH {f : Addr} {fd : FuncData} (F : Def K mg "_law_all_have" (top 67) f fd) (b : Binds K fd (nAllH.take 2) []) (cHas : Cal P w K mg base 1 "_law_has" (spHas K) []) : Cal P w K mg base 2 "_law_all_have" (spAllH K) [] := by
  refine cal0 F b .nil scAllH (fun vs H Q E h => ?_) (fun cdv A outer s H vs Q E hr h => ?_)
  · obtain ⟨a, o, n, rows, os, rfl, _⟩ := h
    rfl
  · obtain ⟨a, o, n, rows, os, rfl, hT, hO, hn, hl, hR, hos, k⟩ := h
    refine ⟨_, pss_one (ps_ret (pe_cmpR (op_eqD hr.units) (pe_lc (own := [("_law_row_here", 2)]) (g := gName 2) (by rfl) scAllH.nd (pi_tup (pv 0))
        (blkOk_by (own := [("_law_row_here", 2)]) (N := nAllH) (sc := fnScope (top 67)) (by decide +kernel)) (fun _ _ _ _ _ => pg_name (i := 2) scAllH.nd rfl (Or.inl rfl))
        (fun _ _ _ _ _ => pts_one (pt_not (pt_val (pe_c cHas hr (by decide) (by rfl) (pa_cons (pv 2) (pa_cons (pv 1) pa_nil))))))
        (fun _ _ _ _ _ => pv 2)) (pe_lst pa_nil) (nomark _))), ?_⟩
    refine ⟨_, rfl, a, rfl, ⟨_, hT⟩, fun D hD => ?_⟩
    refine lc_tup (xs := rows.map rowV) (fun i H' => Acc D H (((rows.take i).filter fun r => !has r os).map rowV) H') (acc_start hD) (fun _ _ _ hA => Same.seqT hA.sm hT) ?_ ?_
    · rintro i x H' hi hA
      obtain ⟨r, hr1, rfl⟩ := map_at hi
      obtain ⟨e1, e2⟩ := hR r (List.mem_of_getElem? hr1)
      refine ⟨rfl, _, rfl, _, rfl, r, o, os, rfl, Same.seqT hA.sm hO, fun j hj => by rw [e1]; exact hos j hj, by omega, _, rfl, ?_⟩
      cases e : has r os with
      | true => exact iteF (acc_keep hA (.refl _) (take_drop_out (fun r => !has r os) rowV hr1 (by rw [e]; rfl)))
      | false => exact iteT ⟨_, rfl, acc_step hD hA (.refl _) (Nat.le_trans (take_flen _ _ _ _) (by omega)) (take_filter (fun r => !has r os) rowV hr1 (by rw [e]; rfl))⟩
    · intro H' hA
      have hA1 := hA.at_
      rw [List.length_map, List.take_length, show (rows.filter fun r => !has r os).map rowV = ((rows.filter fun r => !has r os).map S).map V.str by rw [List.map_map]; rfl] at hA1
      refine ⟨Nat.zero_le _, fun q hq => ?_⟩
      have nDq : D ≠ q := ne_of_none hA1 hq
      refine ⟨_, _, .lst (SqL.of (by rw [upd_ne nDq]; exact hA1)) (dp_strs _), .lst (SqL.of upd_same) .nil, shaped_strs fun x hx => ?_, by decide, ?_⟩
      · obtain ⟨r, hr2, rfl⟩ := List.mem_map.mp hx
        exact signs_ok (hR r (List.mem_filter.mp hr2).1).2
      · have e : PyData.eqv (.list (((rows.filter fun r => !has r os).map S).map PyData.str)) (.list []) = allHave rows os := by
          rw [eqv_nil]
          unfold allHave
          rw [Bool.eq_iff_iff, List.isEmpty_iff, List.map_eq_nil_iff, List.map_eq_nil_iff, List.filter_eq_nil_iff, List.all_eq_true]
          constructor
          · intro h r hr3
            simpa using h r hr3
          · intro h r hr3
            simp [h r hr3]
        rw [e]
        exact k _ (hA.sm.trans (same_new hq))
end
end RK
set_option Elab.async false
set_option linter.all false
set_option maxRecDepth 100000
namespace RK
open PySem PySem.Spec PyProof.Rows L2 C8
open SX (S)
section
variable {P : Program} {w : World} {K : PySem.W.Frag} {mg : Str → Option Value} {base : Heap}
theorem seqIx {r n : Nat} (h : r < n) : seqIndex? (r : Int) n = some r := by
  refine (ixN_seq ?_).1
  unfold ixN
  rw [if_pos (by omega), if_pos (by omega)]
  simp
/-! _law_order -/
abbrev nOrder : List Str := ["_law_pail", "_law_many", "_law_left", "_law_found", "_law_k"]
theorem scOrder : FnScope nOrder (nOrder.take 2) (fnScope (top 68)) := fnScope_by (by decide +kernel)
def spOrder : Sp := fun vs H Q _ => ∃ (p : Addr) (m c : Nat), vs = [.ref p, nV m] ∧ Pail H p c ∧ m ≤ 8 ∧ c + 8 ≤ 1000000 ∧
  ∀ (H' : Hp) (q : Addr) (os : List Nat), But p H H' → Pail H' p (c + m) → H q = none → H' q = some (.tup (os.map nV)) → os.length = m → (∀ a ∈ os, a < m) → Q (.ref q) H'
theorem ok_order {f : Addr} {fd : FuncData} (F : Def K mg "_law_order" (top 68) f fd) (b : Binds K fd (nOrder.take 2) []) (cCast : Cal P w K mg base 1 "_law_cast" spCast []) (mL : mg "len" = none) (mR : mg "range" = none) (mLi : mg "list" = none) (mT : mg "tuple" = none) :
    Cal P w K mg base 2 "_law_order" spOrder [] := by
  refine cal0 F b .nil scOrder (fun vs H Q E h => ?_) (fun cdv A outer s H vs Q E hr h => ?_)
  · obtain ⟨p, m, c, rfl, _⟩ := h
    rfl
  · obtain ⟨p, m, c, rfl, hP, h1, hc, k⟩ := h
    refine ⟨_, pss_cons (ps_par (i := 2) (j := 3) (by rfl) scOrder.nd rfl rfl (by decide) rfl rfl (pa_cons (pe_listRg (by rfl) (by rfl) mLi (prg_1 (by rfl) mR (pv 1))) (pa_cons (pe_lst pa_nil) pa_nil)) (by rfl))
      (pss_cons (ps_for PassesOwn.never rfl (pi_range1 (by rfl) mR (pa_cons (pv 1) pa_nil)) (pg_name (i := 4) scOrder.nd rfl (Or.inl rfl))
        (pss_one (ps_expr (pe_bm PySem.F.plainAttrs_list PySem.F.slot_list_append PySem.F.type_list_append mt_append (pv 3)
          (pa_cons (pe_bm PySem.F.plainAttrs_list PySem.F.slot_list_pop PySem.F.type_list_pop mt_popAt (pv 2)
            (pa_cons (pe_c cCast hr (by decide) (by rfl) (pa_cons (pv 0) (pa_cons (pe_callB call_len_seq (by rfl) mL PySem.boot_len (pa_cons (pv 2) pa_nil)) pa_nil))) pa_nil)) pa_nil)))))
      (pss_one (ps_ret (pe_tupleOf (by rfl) mT (pv 3))))), ?_⟩
    obtain ⟨ys, hy⟩ := hP.lst
    refine ⟨_, rfl, _, rfl, ⟨by decide, by decide, by omega, by omega, by omega⟩, fun L hL => ⟨Nat.zero_le _, fun D hD => ⟨_, _, rfl, ?_⟩⟩⟩
    have nLp : L ≠ p := (ne_of_none hy hL).symm
    have nDL : D ≠ L := fun e => by rw [e, upd_same] at hD; cases hD
    have hD0 : H D = none := by rw [upd_ne nDL] at hD; exact hD
    have nDp : D ≠ p := (ne_of_none hy hD0).symm
    have s2 : Same H (upd (upd H L (.lst (rgV 0 m))) D (.lst [])) := (same_new hL).trans (same_new hD)
    have eL : rgV 0 (m : Int) = (List.range m).map nV := by
      unfold rgV
      rw [show ((m : Int) - 0).toNat = m by omega]
      exact List.map_congr_left fun i _ => by rw [Int.zero_add]
    refine ⟨_, rfl, (m : Int), rfl, by omega, by omega, for_range (lo := 0) (n := (m : Int).toNat) (fun i σ H' => ∃ (ls fs : List Nat) (v : Option V), σ = [some (.ref p), some (nV m), some (.ref L), some (.ref D), v] ∧
      H' L = some (.lst (ls.map nV)) ∧ H' D = some (.lst (fs.map nV)) ∧ ls.length + i = m ∧ fs.length = i ∧ (∀ a ∈ ls, a < m) ∧ (∀ a ∈ fs, a < m) ∧ But p H H' ∧ Pail H' p (c + i))
      ⟨List.range m, [], none, rfl, by rw [upd_ne nDL.symm, upd_same, eL], upd_same, by rw [List.length_range]; rfl, rfl, fun a ha => List.mem_range.mp ha, fun a ha => absurd ha List.not_mem_nil, Same.but s2, hP.same s2⟩ ?_ ?_⟩
    · rintro i σ H' hi ⟨ls, fs, v, rfl, eL, eD, l1, l2, a1, a2, hb, hP'⟩
      refine ⟨_, rfl, .inl ⟨rfl, _, SqL.of eD⟩, _, rfl, .inl ⟨rfl, _, SqL.of eL⟩, _, rfl, _, rfl, L, _, rfl, .inl (SqL.of eL), p, ls.length, c + i, ?_, hP', by omega, by omega, by omega, fun H2 r hb2 hP2 hr2 => ?_⟩
      · rw [List.length_map]
        rfl
      have eL2 := hb2 L _ nLp eL
      have eD2 := hb2 D _ nDp eD
      obtain ⟨x, hx⟩ := at_of_lt hr2
      refine ⟨L, _, (r : Int), r, nV x, rfl, rfl, eL2, by omega, by omega, by rw [List.length_map]; exact seqIx hr2, by rw [List.getElem?_map, hx]; rfl, ?_⟩
      refine ⟨D, _, _, rfl, rfl, by rw [upd_ne nDL]; exact eD2, small1000 (by rw [List.length_map]; omega), ?_⟩
      have hx2 := a1 x (List.mem_of_getElem? hx)
      refine ⟨ls.eraseIdx r, fs ++ [x], _, rfl, by rw [upd_ne nDL.symm, upd_same, eraseIdx_map'], by rw [upd_same, List.map_append]; rfl, by have := erase_len hr2; omega, by rw [List.length_append, l2]; rfl,
        fun a ha => a1 a (mem_erase ha), fun a ha => ?_, fun z o n q => ?_, ?_⟩
      · rcases List.mem_append.mp ha with ha | ha
        · exact a2 a ha
        · rw [List.mem_singleton.mp ha]; exact hx2
      · rw [upd_ne (fun e => by rw [e, hD0] at q; cases q), upd_ne (fun e => by rw [e, hL] at q; cases q)]
        exact hb2 _ _ n (hb _ _ n q)
      · obtain ⟨x1, x2, x3, g1, g2⟩ := hP2
        exact ⟨x1, x2, x3, by rw [upd_ne nDp.symm, upd_ne nLp.symm]; exact g1, g2⟩
    · rintro σ H' ⟨ls, fs, v, rfl, eL, eD, l1, l2, a1, a2, hb, hP'⟩
      refine ⟨_, rfl, .inl ⟨D, _, rfl, SqL.of eD, fun q hq => ?_⟩⟩
      have hq0 : H q = none := by
        cases z : H q with
        | none => rfl
        | some o =>
          by_cases e : q = p
          · obtain ⟨y2, hy2⟩ := hP'.lst
            rw [e, hy2] at hq; cases hq
          · rw [hb _ _ e z] at hq; cases hq
      refine k _ q fs (hb.same (same_new hq)) ?_ hq0 upd_same (by omega) a2
      have := hP'.same (same_new (o := .tup (fs.map nV)) hq)
      rwa [show c + (m : Int).toNat = c + m by omega] at this
/-! _law_words -/
abbrev nWords : List Str := ["_law_pail", "_law_many", "_law_menu", "_law_chosen", "_law_k"]
theorem scWords : FnScope nWords (nWords.take 2) (fnScope (top 70)) := fnScope_by (by decide +kernel)
abbrev strV (l : List Nat) : V := .str (S l)
def menuS : List Str := ["a", "ab", "abc", "b", "cost", "d", "ever", "fits", "k", "near", "row", "s", "safe", "z", "zzzzzzzz"]
def menu0 : List (List Nat) := menuS.map TL.tl
theorem menu_vals : ([.str "a", .str "ab", .str "abc", .str "b", .str "cost", .str "d", .str "ever", .str "fits", .str "k", .str "near", .str "row", .str "s", .str "safe", .str "z", .str "zzzzzzzz"] : List V) = menu0.map strV := by decide +kernel
theorem menu_nodup : menu0.Nodup := by decide +kernel
def WordsOk (ws : List (List Nat)) : Prop := ws.Pairwise (· < ·) ∧ ∀ x ∈ ws, x ∈ menu0
def spWords : Sp := fun vs H Q _ => ∃ (p : Addr) (m c : Nat), vs = [.ref p, nV m] ∧ Pail H p c ∧ m ≤ 8 ∧ c + 8 ≤ 1000000 ∧
  ∀ (H' : Hp) (q : Addr) (ws : List (List Nat)), But p H H' → Pail H' p (c + m) → H q = none → H' q = some (.tup (ws.map strV)) → ws.length = m → WordsOk ws → Q (.ref q) H'
theorem rising_S : ∀ (p : Str) (l : List Str), risingS p l = risingL (TL.tl p) (l.map TL.tl)
  | _, [] => rfl
  | p, x :: r => by
    show (!ltCps x.cps.toList p.cps.toList && risingS x r) = (!decide (TL.tl x < TL.tl p) && risingL (TL.tl x) (r.map TL.tl))
    rw [ltCps_eq, rising_S x r]
theorem sorted_S : ∀ l : List Str, sortedS l = sortedL (l.map TL.tl)
  | [] => rfl
  | x :: r => rising_S x r
theorem strs_back (ys : List Str) : ys.map V.str = (ys.map TL.tl).map strV := by
  rw [List.map_map]
  exact List.map_congr_left fun y _ => congrArg V.str (SX.S_tl y).symm
theorem tl_back (cs : List (List Nat)) : (cs.map S).map TL.tl = cs := SX.map_S_tl cs
theorem ok_words {f : Addr} {fd : FuncData} (F : Def K mg "_law_words" (top 70) f fd) (b : Binds K fd (nWords.take 2) []) (cCast : Cal P w K mg base 1 "_law_cast" spCast []) (mL : mg "len" = none) (mR : mg "range" = none) (mS : mg "sorted" = none) (mT : mg "tuple" = none) :
    Cal P w K mg base 2 "_law_words" spWords [] := by
  refine cal0 F b .nil scWords (fun vs H Q E h => ?_) (fun cdv A outer s H vs Q E hr h => ?_)
  · obtain ⟨p, m, c, rfl, _⟩ := h
    rfl
  · obtain ⟨p, m, c, rfl, hP, h1, hc, k⟩ := h
    refine ⟨_, pss_cons (ps_set (i := 2) scWords.nd rfl (.inl rfl) (pe_lst (pa_cons pe_str (pa_cons pe_str (pa_cons pe_str (pa_cons pe_str (pa_cons pe_str (pa_cons pe_str (pa_cons pe_str (pa_cons pe_str (pa_cons pe_str (pa_cons pe_str (pa_cons pe_str (pa_cons pe_str (pa_cons pe_str (pa_cons pe_str (pa_cons pe_str pa_nil)))))))))))))))))
      (pss_cons (ps_set (i := 3) scWords.nd rfl (.inl rfl) (pe_lst pa_nil))
      (pss_cons (ps_for PassesOwn.never rfl (pi_range1 (by rfl) mR (pa_cons (pv 1) pa_nil)) (pg_name (i := 4) scWords.nd rfl (Or.inl rfl))
        (pss_one (ps_expr (pe_bm PySem.F.plainAttrs_list PySem.F.slot_list_append PySem.F.type_list_append mt_append (pv 3)
          (pa_cons (pe_bm PySem.F.plainAttrs_list PySem.F.slot_list_pop PySem.F.type_list_pop mt_popAt (pv 2)
            (pa_cons (pe_c cCast hr (by decide) (by rfl) (pa_cons (pv 0) (pa_cons (pe_callB call_len_seq (by rfl) mL PySem.boot_len (pa_cons (pv 2) pa_nil)) pa_nil))) pa_nil)) pa_nil)))))
      (pss_one (ps_ret (pe_tupleOf (by rfl) mT (pe_callB cr_sortedS (by rfl) mS (by decide +kernel) (pa_cons (pv 3) pa_nil))))))), ?_⟩
    obtain ⟨ys, hy⟩ := hP.lst
    refine ⟨by show 15 ≤ sizeLine; decide, fun L hL => ⟨Nat.zero_le _, fun D hD => ?_⟩⟩
    have nLp : L ≠ p := (ne_of_none hy hL).symm
    have nDL : D ≠ L := fun e => by rw [e, upd_same] at hD; cases hD
    have hD0 : H D = none := by rw [upd_ne nDL] at hD; exact hD
    have nDp : D ≠ p := (ne_of_none hy hD0).symm
    have s2 := (same_new (o := .lst (menu0.map strV)) hL).trans (same_new (o := .lst []) (by rw [upd_ne nDL]; exact hD0))
    rw [menu_vals]
    refine ⟨_, rfl, (m : Int), rfl, by omega, by omega, for_range (lo := 0) (n := (m : Int).toNat) (fun i σ H' => ∃ (ls fs : List (List Nat)) (v : Option V), σ = [some (.ref p), some (nV m), some (.ref L), some (.ref D), v] ∧
      H' L = some (.lst (ls.map strV)) ∧ H' D = some (.lst (fs.map strV)) ∧ ls.length + i = 15 ∧ fs.length = i ∧ (fs ++ ls).Perm menu0 ∧ But p H H' ∧ Pail H' p (c + i))
      ⟨menu0, [], none, rfl, by rw [upd_ne nDL.symm, upd_same], upd_same, by decide +kernel, rfl, List.Perm.refl _, Same.but s2, hP.same s2⟩ ?_ ?_⟩
    · rintro i σ H' hi ⟨ls, fs, v, rfl, eL, eD, l1, l2, a1, hb, hP'⟩
      refine ⟨_, rfl, .inl ⟨rfl, _, SqL.of eD⟩, _, rfl, .inl ⟨rfl, _, SqL.of eL⟩, _, rfl, _, rfl, L, _, rfl, .inl (SqL.of eL), p, ls.length, c + i, ?_, hP', by omega, by omega, by omega, fun H2 r hb2 hP2 hr2 => ?_⟩
      · rw [List.length_map]
        rfl
      have eL2 := hb2 L _ nLp eL
      have eD2 := hb2 D _ nDp eD
      obtain ⟨x, hx⟩ := at_of_lt hr2
      refine ⟨L, _, (r : Int), r, strV x, rfl, rfl, eL2, by omega, by omega, by rw [List.length_map]; exact seqIx hr2, by rw [List.getElem?_map, hx]; rfl, ?_⟩
      refine ⟨D, _, _, rfl, rfl, by rw [upd_ne nDL]; exact eD2, small1000 (by rw [List.length_map]; omega), ?_⟩
      refine ⟨ls.eraseIdx r, fs ++ [x], _, rfl, by rw [upd_ne nDL.symm, upd_same, eraseIdx_map'], by rw [upd_same, List.map_append]; rfl, by have := erase_len hr2; omega, by rw [List.length_append, l2]; rfl, ?_, fun z o n q => ?_, ?_⟩
      · rw [List.append_assoc]
        exact ((erase_perm hx).append_left fs).trans a1
      · rw [upd_ne (fun e => by rw [e, hD0] at q; cases q), upd_ne (fun e => by rw [e, hL] at q; cases q)]
        exact hb2 _ _ n (hb _ _ n q)
      · obtain ⟨x1, x2, x3, g1, g2⟩ := hP2
        exact ⟨x1, x2, x3, by rw [upd_ne nDp.symm, upd_ne nLp.symm]; exact g1, g2⟩
    · rintro σ H' ⟨ls, fs, v, rfl, eL, eD, l1, l2, a1, hb, hP'⟩
      refine ⟨_, rfl, D, fs.map S, rfl, SqL.of (by rw [List.map_map]; exact eD), by rw [List.length_map]; omega, fun zs t hperm hsort ht => ?_⟩
      refine .inl ⟨t, _, rfl, SqL.of upd_same, fun q hq => ?_⟩
      have s3 := (same_new (o := .lst (zs.map V.str)) ht).trans (same_new (o := .tup (zs.map V.str)) hq)
      have nqt : q ≠ t := fun e => by rw [e, upd_same] at hq; cases hq
      have hq1 : H' q = none := by rw [upd_ne nqt] at hq; exact hq
      have hq0 : H q = none := by
        cases z : H q with
        | none => rfl
        | some o =>
          by_cases e : q = p
          · obtain ⟨y2, hy2⟩ := hP'.lst
            rw [e, hy2] at hq1; cases hq1
          · rw [hb _ _ e z] at hq1; cases hq1
      have hp2 : (zs.map TL.tl).Perm fs := by
        have := hperm.map TL.tl
        rwa [tl_back] at this
      have hnd : fs.Nodup := (List.nodup_append.mp (a1.symm.nodup menu_nodup)).1
      refine k _ q (zs.map TL.tl) (hb.same s3) ?_ hq0 (by rw [upd_same, strs_back]) (by rw [hp2.length_eq]; omega) ⟨sorted_pw (by rw [← sorted_S]; exact hsort) (hp2.symm.nodup hnd), fun x hx => a1.mem_iff.mp (List.mem_append_left _ (hp2.mem_iff.mp hx))⟩
      have := hP'.same s3
      rwa [show c + (m : Int).toNat = c + m by omega] at this
end
end RK
set_option Elab.async false
set_option linter.all false
set_option maxRecDepth 100000
namespace RK
open PySem PySem.Spec PyProof.Rows L2 C8
open SX (S)
section
variable {P : Program} {w : World} {K : PySem.W.Frag} {mg : Str → Option Value} {base : Heap}
/-! _law_rows -/
abbrev nRows : List Str := ["_law_pail", "_law_many", "_law_most", "_law_found", "_law_order_here_here", "_law_way", "_law_k", "_law_row_here"]
theorem scRows : FnScope nRows (nRows.take 3) (fnScope (top 69)) := fnScope_by (by decide +kernel)
def spRows : Sp := fun vs H Q _ => ∃ (p : Addr) (m t c : Nat), vs = [.ref p, nV m, nV t] ∧ Pail H p c ∧ 1 ≤ m ∧ m ≤ 8 ∧ t ≤ 8 ∧ c + 100 ≤ 1000000 ∧
  ∀ (H' : Hp) (q : Addr) (rows : List Row), But p H H' → Pail H' p (c + 100) → H q = none → H' q = some (.tup (rows.map rowV)) → rows.length ≤ t → RowsOk m rows → Q (.ref q) H'
theorem but_free {p q : Addr} {H H' : Hp} (hb : But p H H') (hp : ∃ ys, H' p = some (.lst ys)) (hq : H' q = none) : H q = none := by
  cases z : H q with
  | none => rfl
  | some o =>
    by_cases e : q = p
    · obtain ⟨y2, hy2⟩ := hp
      rw [e, hy2] at hq; cases hq
    · rw [hb _ _ e z] at hq; cases hq
theorem ok_rows {f : Addr} {fd : FuncData} (F : Def K mg "_law_rows" (top 69) f fd) (b : Binds K fd (nRows.take 3) []) (cCast : Cal P w K mg base 1 "_law_cast" spCast []) (cOrder : Cal P w K mg base 2 "_law_order" spOrder []) (cRow : Cal P w K mg base 3 "_law_row" spRow [])
    (cHas : Cal P w K mg base 1 "_law_has" (spHas K) []) (cOther : Cal P w K mg base 1 "_law_other_way" spOther []) (mR : mg "range" = none) (mT : mg "tuple" = none) :
    Cal P w K mg base 4 "_law_rows" spRows [] := by
  refine cal0 F b .nil scRows (fun vs H Q E h => ?_) (fun cdv A outer s H vs Q E hr h => ?_)
  · obtain ⟨p, m, t, c, rfl, _⟩ := h
    rfl
  · obtain ⟨p, m, t, c, rfl, hP, h0, h1, ht, hc, k⟩ := h
    refine ⟨_, pss_cons (ps_par3 (i := 3) (j := 4) (l := 5) (by rfl) scRows.nd rfl rfl rfl (by decide) (by decide) (by decide) rfl rfl rfl
        (pa_cons (pe_lst pa_nil) (pa_cons (pe_c cOrder hr (by decide) (by rfl) (pa_cons (pv 0) (pa_cons (pv 1) pa_nil))) (pa_cons (pe_c cCast hr (by decide) (by rfl) (pa_cons (pv 0) (pa_cons pe_int pa_nil))) pa_nil))) (by rfl))
      (pss_cons (ps_for PassesOwn.never rfl (pi_range1 (by rfl) mR (pa_cons (pe_c cCast hr (by decide) (by rfl) (pa_cons (pv 0) (pa_cons (pe_op op_add (pv 2) pe_int) pa_nil))) pa_nil)) (pg_name (i := 6) scRows.nd rfl (Or.inl rfl))
        (pss_cons (ps_set (i := 7) scRows.nd rfl (.inl rfl) (pe_c cRow hr (by decide) (by rfl) (pa_cons (pv 0) (pa_cons (pv 1) pa_nil))))
        (pss_cut (ps_if (PW.pt (pw_and (pt_cmpR op_gt (pv 5) pe_int (nomark _)) (pw_and (pt_not (pt_val (pe_c cHas hr (by decide) (by rfl) (pa_cons (pv 7) (pa_cons (pv 4) pa_nil)))))
            (pw_and1 (PW.pt (pw_or (pt_cmpR op_gt (pv 5) pe_int (nomark _)) (pw_or1 (pt_cmpR op_gt (pv 6) pe_int (nomark _)))))))))
          (pss_one (ps_set (i := 7) scRows.nd rfl (.inl rfl) (pe_c cOther hr (by decide) (by rfl) (pa_cons (pv 7) pa_nil)))) pss_nil)
        (pss_one (ps_expr (pe_bm PySem.F.plainAttrs_list PySem.F.slot_list_append PySem.F.type_list_append mt_append (pv 3) (pa_cons (pv 7) pa_nil)))))))
      (pss_one (ps_ret (pe_tupleOf (by rfl) mT (pv 3))))), ?_⟩
    obtain ⟨ys, hy⟩ := hP.lst
    refine ⟨Nat.zero_le _, fun D hD => ?_⟩
    have nDp : D ≠ p := (ne_of_none hy hD).symm
    have s1 := same_new (o := .lst []) hD
    refine ⟨_, rfl, _, rfl, p, m, c, rfl, hP.same s1, h1, by omega, fun H1 o os hb1 hP1 ho1 ho2 ho3 ho4 => ?_⟩
    refine ⟨_, rfl, p, 4, c + m, rfl, hP1, by decide, by decide, by omega, fun H2 way hb2 hP2 hway => ⟨_, _, _, rfl, ?_⟩⟩
    refine ⟨_, rfl, _, rfl, _, _, rfl, rfl, p, t + 1, c + m + 1, rfl, hP2, by omega, by omega, by omega, fun H3 turns hb3 hP3 hturn => ?_⟩
    have hbD : But p H H1 := (Same.but s1).trans hb1
    have nop : o ≠ p := by
      obtain ⟨y1, hy1⟩ := hP1.lst
      exact ne_of ho2 hy1 (by intro q; cases q)
    have hO3 : H3 o = some (.tup (os.map nV)) := hb3 _ _ nop (hb2 _ _ nop ho2)
    have hD3 : H3 D = some (.lst []) := hb3 _ _ nDp (hb2 _ _ nDp (hb1 _ _ nDp upd_same))
    refine ⟨(turns : Int), rfl, by omega, by omega, for_range (lo := 0) (n := (turns : Int).toNat) (fun i σ H' => ∃ (rows : List Row) (v6 v7 : Option V), σ = [some (.ref p), some (nV m), some (nV t), some (.ref D), some (.ref o), some (nV way), v6, v7] ∧
      H' D = some (.lst (rows.map rowV)) ∧ H' o = some (.tup (os.map nV)) ∧ rows.length = i ∧ RowsOk m rows ∧ But p H H' ∧ Pail H' p (c + m + 2 + m * i))
      ⟨[], none, none, rfl, hD3, hO3, rfl, fun _ h => absurd h List.not_mem_nil, (hbD.trans hb2).trans hb3, hP3.le (by omega)⟩ ?_ ?_⟩
    · rintro i σ H' hi ⟨rows, v6, v7, rfl, eD, eO, l1, hR, hb, hP'⟩
      have hmi : m * i ≤ 8 * 8 := Nat.mul_le_mul h1 (by omega)
      refine ⟨_, rfl, _, rfl, p, m, c + m + 2 + m * i, rfl, hP', h1, by omega, fun H4 r hb4 hP4 hr1 hr2 => ?_⟩
      have eD4 := hb4 _ _ nDp eD
      have eO4 := hb4 _ _ nop eO
      have hP5 : Pail H4 p (c + m + 2 + m * (i + 1)) := hP4.le (by rw [Nat.mul_succ]; omega)
      refine ⟨fun σ' H5 => ∃ r' : Row, σ' = [some (.ref p), some (nV m), some (nV t), some (.ref D), some (.ref o), some (nV way), some (.int (0 + (i : Int))), some (rowV r')] ∧ r'.length = m ∧ Signs r' ∧
        H5 D = some (.lst (rows.map rowV)) ∧ H5 o = some (.tup (os.map nV)) ∧ But p H H5 ∧ Pail H5 p (c + m + 2 + m * (i + 1)), ?_, ?_⟩
      · have no : ∃ r' : Row, [some (V.ref p), some (nV m), some (nV t), some (V.ref D), some (V.ref o), some (nV way), some (V.int (0 + (i : Int))), some (rowV r)] = [some (V.ref p), some (nV m), some (nV t), some (V.ref D), some (V.ref o), some (nV way), some (V.int (0 + (i : Int))), some (rowV r')] ∧ r'.length = m ∧ Signs r' ∧
            H4 D = some (.lst (rows.map rowV)) ∧ H4 o = some (.tup (os.map nV)) ∧ But p H H4 ∧ Pail H4 p (c + m + 2 + m * (i + 1)) := ⟨r, rfl, hr1, hr2, eD4, eO4, hb.trans hb4, hP5⟩
        refine ⟨_, rfl, _, _, rfl, rfl, _, rfl, ite2 (fun _ => ?_) (fun _ => ?_)⟩
        · refine ⟨_, rfl, _, rfl, r, o, os, rfl, SqT.of eO4, fun a ha => by rw [hr1]; exact ho4 a ha, by omega, _, rfl, ?_⟩
          refine ite2 (fun _ => ?_) (fun _ => iteF no)
          refine ⟨_, rfl, _, _, rfl, rfl, _, rfl, ite2 (fun _ => ?_) (fun _ => ⟨_, rfl, _, _, rfl, rfl, _, rfl, ite2 (fun _ => ?_) (fun _ => no)⟩)⟩
          all_goals
            refine ⟨_, rfl, r, rfl, by omega, hr2, fun H5 r' s5 e1 e2 => ?_⟩
            exact ⟨r', rfl, e1.trans hr1, e2, s5 _ _ eD4, s5 _ _ eO4, (hb.trans hb4).same s5, hP5.same s5⟩
        · exact iteF no
      · rintro σ' H5 ⟨r', rfl, q1, q2, q3, q4, q5, q6⟩
        refine ⟨_, rfl, .inl ⟨rfl, _, SqL.of q3⟩, _, rfl, D, _, _, rfl, rfl, q3, small1000 (by rw [List.length_map]; omega), ?_⟩
        refine ⟨rows ++ [r'], _, _, rfl, by rw [upd_same, List.map_append]; rfl, by rw [upd_ne (ne_of q4 q3 (by intro q; cases q))]; exact q4, by rw [List.length_append, l1]; rfl, fun x hx => ?_, fun z u n q => ?_, ?_⟩
        · rcases List.mem_append.mp hx with hx | hx
          · exact hR x hx
          · rw [List.mem_singleton.mp hx]; exact ⟨q1, q2⟩
        · rw [upd_ne (fun e => by rw [e, hD] at q; cases q)]
          exact q5 _ _ n q
        · obtain ⟨x1, x2, x3, g1, g2⟩ := q6
          exact ⟨x1, x2, x3, by rw [upd_ne nDp.symm]; exact g1, g2⟩
    · rintro σ H' ⟨rows, v6, v7, rfl, eD, eO, l1, hR, hb, hP'⟩
      refine ⟨_, rfl, .inl ⟨D, _, rfl, SqL.of eD, fun q hq => ?_⟩⟩
      have hmi : m * (turns : Int).toNat ≤ 8 * 8 := Nat.mul_le_mul h1 (by omega)
      exact k _ q rows (hb.same (same_new hq)) ((hP'.le (by omega)).same (same_new hq)) (but_free hb hP'.lst hq) upd_same (by omega) hR
end
end RK
set_option Elab.async false
set_option linter.all false
set_option maxRecDepth 100000
namespace RK
open PySem PySem.Spec PyProof.Rows L2 C8
open SX (S)
section
variable {P : Program} {w : World} {K : PySem.W.Frag} {mg : Str → Option Value} {base : Heap}
/-! _law_book -/
abbrev nBook : List Str := ["_law_pail", "_law_most", "_law_rows_most", "_law_many"]
theorem scBook : FnScope nBook (nBook.take 3) (fnScope (top 71)) := fnScope_by (by decide +kernel)
def spBook : Sp := fun vs H Q _ => ∃ (p : Addr) (t u c : Nat), vs = [.ref p, nV t, nV u] ∧ Pail H p c ∧ 1 ≤ t ∧ t ≤ 6 ∧ u ≤ 8 ∧ c + 200 ≤ 1000000 ∧
  ∀ (H' : Hp) (q a b : Addr) (ws : List (List Nat)) (rows : List Row), But p H H' → Pail H' p (c + 200) → H' q = some (.tup [.ref a, .ref b]) → H' a = some (.tup (ws.map strV)) → H' b = some (.tup (rows.map rowV)) →
    1 ≤ ws.length → ws.length ≤ t → WordsOk ws → rows.length ≤ u → RowsOk ws.length rows → Q (.ref q) H'
theorem ok_book {f : Addr} {fd : FuncData} (F : Def K mg "_law_book" (top 71) f fd) (b : Binds K fd (nBook.take 3) []) (cCast : Cal P w K mg base 1 "_law_cast" spCast []) (cWords : Cal P w K mg base 2 "_law_words" spWords []) (cRows : Cal P w K mg base 4 "_law_rows" spRows []) :
    Cal P w K mg base 5 "_law_book" spBook [] := by
  refine cal0 F b .nil scBook (fun vs H Q E h => ?_) (fun cdv A outer s H vs Q E hr h => ?_)
  · obtain ⟨p, t, u, c, rfl, _⟩ := h
    rfl
  · obtain ⟨p, t, u, c, rfl, hP, h0, h1, hu, hc, k⟩ := h
    refine ⟨_, pss_cons (ps_set (i := 3) scBook.nd rfl (.inl rfl) (pe_op op_add pe_int (pe_c cCast hr (by decide) (by rfl) (pa_cons (pv 0) (pa_cons (pv 1) pa_nil)))))
      (pss_one (ps_ret (pe_tup (pa_cons (pe_c cWords hr (by decide) (by rfl) (pa_cons (pv 0) (pa_cons (pv 3) pa_nil))) (pa_cons (pe_c cRows hr (by decide) (by rfl) (pa_cons (pv 0) (pa_cons (pv 3) (pa_cons (pv 2) pa_nil)))) pa_nil))))), ?_⟩
    refine ⟨_, rfl, _, rfl, p, t, c, rfl, hP, h0, by omega, by omega, fun H1 r hb1 hP1 hr1 => ⟨_, _, rfl, rfl, ?_⟩⟩
    have e1 : V.int (1 + (r : Int)) = nV (r + 1) := congrArg V.int (by omega)
    refine ⟨_, rfl, _, rfl, p, r + 1, c + 1, by rw [← e1]; rfl, hP1, by omega, by omega, fun H2 a ws hb2 hP2 _ ha hl hw => ?_⟩
    refine ⟨_, rfl, _, rfl, _, rfl, p, r + 1, u, c + 1 + (r + 1), by rw [← e1]; rfl, hP2, by omega, by omega, hu, by omega, fun H3 q rows hb3 hP3 _ hq hn hR => ?_⟩
    obtain ⟨y2, hy2⟩ := hP2.lst
    have nap : a ≠ p := ne_of ha hy2 (by intro q; cases q)
    refine ⟨by show 2 ≤ sizeLine; decide, fun d hd => ?_⟩
    have s3 := same_new (o := .tup [.ref a, .ref q]) hd
    exact k _ d a q ws rows (((hb1.trans hb2).trans hb3).same s3) ((hP3.same s3).le (by omega)) upd_same (s3 _ _ (hb3 _ _ nap ha)) (s3 _ _ hq) (by omega) (by omega) hw hn (by rw [hl]; exact hR)
/-! _law_said -/
abbrev nSaid : List Str := ["_law_words_here", "_law_rows_here", "_law_row_here"]
theorem scSaid : FnScope nSaid (nSaid.take 2) (fnScope (top 72)) := fnScope_by (by decide +kernel)
def said (ws : List (List Nat)) (rows : List Row) : List Nat := TL.joinL [32] ws ++ [58] ++ (rows.map fun r => 32 :: r).flatten
def spSaid (K : PySem.W.Frag) : Sp := fun vs H Q _ => ∃ (a b : Addr) (ws : List (List Nat)) (rows : List Row), vs = [.ref a, .ref b] ∧ SqT K H a (ws.map strV) ∧ SqT K H b (rows.map rowV) ∧ ws.length ≤ 8 ∧ (∀ x ∈ ws, x.length ≤ 8) ∧ rows.length ≤ 8 ∧ (∀ r ∈ rows, r.length ≤ 8) ∧
  ∀ H' : Hp, Same H H' → Q (strV (said ws rows)) H'
theorem joinL_flat : ∀ l : List (List Nat), TL.joinL [] l = l.flatten
  | [] => rfl
  | [p] => by rw [List.flatten_cons, List.flatten_nil, List.append_nil]; rfl
  | p :: q :: r => by
    show p ++ ([] ++ TL.joinL [] (q :: r)) = p ++ (q :: r).flatten
    rw [joinL_flat (q :: r)]
    rfl
theorem sum_le {α : Type} (f : α → Nat) (k : Nat) : ∀ l : List α, (∀ x ∈ l, f x ≤ k) → (l.map f).sum ≤ l.length * k
  | [], _ => by simp
  | x :: l, h => by
    rw [List.map_cons, List.sum_cons, List.length_cons, Nat.add_mul, Nat.one_mul]
    have := sum_le f k l fun y hy => h y (List.mem_cons_of_mem _ hy)
    have := h x List.mem_cons_self
    omega
theorem joinL_len (S : List Nat) : ∀ l : List (List Nat), (TL.joinL S l).length ≤ (l.map (·.length)).sum + l.length * S.length
  | [] => by simp [TL.joinL]
  | [p] => by simp [TL.joinL]
  | p :: q :: r => by
    show (p ++ (S ++ TL.joinL S (q :: r))).length ≤ _
    have := joinL_len S (q :: r)
    simp only [List.length_append, List.map_cons, List.sum_cons, List.length_cons, Nat.add_mul, Nat.one_mul] at this ⊢
    omega
theorem ok_said {f : Addr} {fd : FuncData} (F : Def K mg "_law_said" (top 72) f fd) (b : Binds K fd (nSaid.take 2) []) : Cal P w K mg base 1 "_law_said" (spSaid K) [] := by
  refine cal0 F b .nil scSaid (fun vs H Q E h => ?_) (fun cdv A outer s H vs Q E hr h => ?_)
  · obtain ⟨a, b, ws, rows, rfl, _⟩ := h
    rfl
  · obtain ⟨a, b, ws, rows, rfl, hA, hB, h1, h2, h3, h4, k⟩ := h
    refine ⟨_, pss_one (ps_ret (pe_op op_add_str (pe_op op_add_str (pe_join pe_str (pv 0)) pe_str)
      (pe_join pe_str (pe_lc (own := [("_law_row_here", 2)]) (g := gName 2) (tt := tYes) (by rfl) scSaid.nd (pi_tup (pv 1))
        (blkOk_by (own := [("_law_row_here", 2)]) (N := nSaid) (sc := fnScope (top 72)) (by decide +kernel)) (fun _ _ _ _ _ => pg_name (i := 2) scSaid.nd rfl (Or.inl rfl)) (fun _ _ _ _ _ => pts_nil)
        (fun _ _ _ _ _ => pe_op op_add_str pe_str (pv 2)))))), ?_⟩
    have z1 : (ws.map fun x => x.length).sum ≤ ws.length * 8 := sum_le _ 8 ws h2
    have lj : (TL.joinL [32] ws).length ≤ 72 := by
      have := joinL_len [32] ws
      have e : ws.length * [32].length = ws.length := Nat.mul_one _
      have e2 : ws.length * 8 ≤ 8 * 8 := Nat.mul_le_mul_right 8 h1
      have e3 : (ws.map (·.length)).sum ≤ ws.length * 8 := z1
      omega
    refine ⟨⟨_, rfl⟩, _, rfl, S [32], a, ws.map S, rfl, rfl, .inr (by rw [List.map_map]; exact hA), ?_, ?_⟩
    · rw [SX.lens, List.length_map]
      show (ws.map (·.length)).sum + ws.length * 1 ≤ _
      have e2 : ws.length * 8 ≤ 8 * 8 := Nat.mul_le_mul_right 8 h1
      have e3 : (ws.map (·.length)).sum ≤ ws.length * 8 := z1
      omega
    · rw [SX.join_S]
      refine ⟨_, S [58], rfl, rfl, ?_, ⟨_, rfl⟩, _, rfl, b, rfl, ⟨_, hB⟩, fun D hD => ?_⟩
      · rw [SX.S_len, SX.S_len, sizeLine_eq]
        show _ + 1 ≤ _
        omega
      refine lc_tup (xs := rows.map rowV) (fun i H' => Acc D H ((rows.take i).map fun r => strV (32 :: r)) H') (acc_start hD) (fun _ _ _ hA => Same.seqT hA.sm hB) ?_ ?_
      · rintro i x H' hi hAc
        obtain ⟨r, hr1, rfl⟩ := map_at hi
        have hl := h4 r (List.mem_of_getElem? hr1)
        refine ⟨rfl, _, rfl, S [32], S r, rfl, rfl, ?_, ?_⟩
        · rw [SX.S_len, SX.S_len, sizeLine_eq]
          show 1 + _ ≤ _
          omega
        · rw [SX.S_cat]
          exact acc_step hD hAc (.refl _) (Nat.le_trans (take_len _ _ _) (by omega)) (take_map (fun r => strV (32 :: r)) hr1)
      · intro H' hAc
        have hA1 := hAc.at_
        rw [List.length_map, List.take_length] at hA1
        have z2 : ((rows.map fun r => 32 :: r).map (·.length)).sum ≤ rows.length * 9 := by
          rw [List.map_map]
          exact sum_le _ 9 rows fun r hr => by
            show (32 :: r).length ≤ 9
            rw [List.length_cons]
            have := h4 r hr
            omega
        have e4 : rows.length * 9 ≤ 8 * 9 := Nat.mul_le_mul_right 9 h3
        refine ⟨S [], D, (rows.map fun r => 32 :: r).map S, rfl, rfl, .inl (SqL.of (by rw [List.map_map, List.map_map]; exact hA1)), ?_, ?_⟩
        · rw [SX.lens, List.length_map, List.length_map]
          show _ + rows.length * 0 ≤ _
          omega
        · rw [SX.join_S, joinL_flat]
          have lf : ((rows.map fun r => 32 :: r).flatten).length ≤ 72 := by
            rw [List.length_flatten]
            exact Nat.le_trans z2 e4
          refine ⟨S (TL.joinL [32] ws) ++ S [58], _, rfl, rfl, ?_, ?_⟩
          · rw [SX.S_cat, SX.S_len, SX.S_len, sizeLine_eq, List.length_append]
            show _ + 1 + _ ≤ _
            omega
          · show Q (.str (S (TL.joinL [32] ws) ++ S [58] ++ S ((rows.map fun r => 32 :: r).flatten))) H'
            rw [SX.S_cat, SX.S_cat]
            exact k H' hAc.sm
end
end RK
set_option Elab.async false
set_option linter.all false
set_option maxRecDepth 100000
namespace RK
open PySem PySem.Spec PyProof.Rows L2 C8
open SX (S)
section
variable {P : Program} {w : World} {K : PySem.W.Frag} {mg : Str → Option Value} {base : Heap}
/-! _law_orders -/
abbrev nOrders : List Str := ["_law_many", "_law_found", "_law_turn", "_law_longer", "_law_some", "_law_k"]
theorem scOrders : FnScope nOrders (nOrders.take 1) (fnScope (top 73)) := fnScope_by (by decide +kernel)
/-- at the addresses stand the tuples -/
abbrev Tups (H : Hp) : List Addr → List (List Nat) → Prop := Paired fun a s => H a = some (.tup (s.map nV))
theorem Tups.same {H H' : Hp} {as : List Addr} {oss : List (List Nat)} (h : Tups H as oss) (e : Same H H') : Tups H' as oss := Paired.mapP h fun _ _ q => e _ _ q
theorem Tups.app {H : Hp} : ∀ {as bs : List Addr} {oss pss : List (List Nat)}, Tups H as oss → Tups H bs pss → Tups H (as ++ bs) (oss ++ pss)
  | _, _, _, _, .nil, h => h
  | _, _, _, _, .cons q t, h => .cons q (Tups.app t h)
theorem Tups.len {H : Hp} {as : List Addr} {oss : List (List Nat)} (h : Tups H as oss) : as.length = oss.length := Paired.length h
theorem Tups.at {H : Hp} : ∀ {as : List Addr} {oss : List (List Nat)} {i : Nat} {a : Addr}, Tups H as oss → as[i]? = some a → ∃ s, oss[i]? = some s ∧ H a = some (.tup (s.map nV))
  | _, _, _, _, .nil, e => by simp at e
  | _, _, 0, a, .cons q _, e => by
    have e' := Option.some.inj (show some _ = some a from e)
    subst e'
    exact ⟨_, rfl, q⟩
  | _, _, i + 1, a, .cons _ t, e => by
    obtain ⟨s, h1, h2⟩ := Tups.at (i := i) t (by simpa using e)
    exact ⟨s, by simpa using h1, h2⟩
theorem inV_nat (k : Nat) : ∀ s : List Nat, inV (nV k) (s.map nV) = s.contains k
  | [] => rfl
  | x :: s => by
    have ih := inV_nat k s
    unfold inV at ih ⊢
    rw [List.map_cons, List.any_cons, ih, List.contains_cons]
    congr 1
    show ((x : Int) == (k : Int)) = (k == x)
    rw [Bool.eq_iff_iff, beq_iff_eq, beq_iff_eq]
    omega
theorem flat_nats (s : List Nat) : (s.map nV).all flatV = true := by
  rw [List.all_map, List.all_eq_true]
  intro x _
  rfl
def spOrders : Sp := fun vs H Q _ => ∃ n : Nat, vs = [nV n] ∧ n ≤ 6 ∧ ∀ (H' : Hp) (q : Addr) (as : List Addr), Same H H' → H q = none → H' q = some (.lst (as.map V.ref)) → Tups H' as (orders n n) → Q (.ref q) H'
theorem six_pow {n t : Nat} (h : n ≤ 6) (ht : t ≤ 6) : n ^ t ≤ 46656 := Nat.le_trans (Nat.pow_le_pow_left h t) (Nat.le_trans (Nat.pow_le_pow_right (by decide) ht) (by decide))
theorem ok_orders {f : Addr} {fd : FuncData} (F : Def K mg "_law_orders" (top 73) f fd) (b : Binds K fd (nOrders.take 1) []) (mR : mg "range" = none) : Cal P w K mg base 1 "_law_orders" spOrders [] := by
  refine cal0 F b .nil scOrders (fun vs H Q E h => ?_) (fun cdv A outer s H vs Q E hr h => ?_)
  · obtain ⟨n, rfl, _⟩ := h
    rfl
  · obtain ⟨n, rfl, hn, k⟩ := h
    refine ⟨_, pss_cons (ps_set (i := 1) scOrders.nd rfl (.inl rfl) (pe_lst (pa_cons (pe_tup pa_nil) pa_nil)))
      (pss_cons (ps_for PassesOwn.never rfl (pi_range1 (by rfl) mR (pa_cons (pv 0) pa_nil)) (pg_name (i := 2) scOrders.nd rfl (Or.inl rfl))
        (pss_cons (ps_set (i := 3) scOrders.nd rfl (.inl rfl) (pe_lst pa_nil))
        (pss_cons (ps_for PassesOwn.never rfl (pi_list (pv 1)) (pg_name (i := 4) scOrders.nd rfl (Or.inr rfl))
          (pss_one (ps_set (i := 3) scOrders.nd rfl (.inl rfl) (pe_op op_cat (pv 3) (pe_lc (own := [("_law_k", 5)]) (g := gName 5) (by rfl) scOrders.nd (pi_range1 (by rfl) mR (pa_cons (pv 0) pa_nil))
            (blkOk_by (own := [("_law_k", 5)]) (N := nOrders) (sc := fnScope (top 73)) (by decide +kernel)) (fun _ _ _ _ _ => pg_name (i := 5) scOrders.nd rfl (Or.inl rfl))
            (fun _ _ _ _ _ => pts_one (pt_cmpR (r := rIn K true) op_notIn_seq (pv 5) (pv 4) (by rfl)))
            (fun _ _ _ _ _ => pe_op (r := rCatA K) op_catA (pv 4) (pe_tup (pa_cons (pv 5) pa_nil))))))))
        (pss_one (ps_set (i := 1) scOrders.nd rfl (.inl rfl) (pv 3))))))
      (pss_one (ps_ret (pv 1)))), ?_⟩
    refine ⟨Nat.zero_le _, fun t ht => ⟨by show 1 ≤ sizeLine; decide, fun D hD => ?_⟩⟩
    have ntD : t ≠ D := fun e => by rw [← e, upd_same] at hD; cases hD
    have s1 := (same_new (o := .tup []) ht).trans (same_new (o := .lst [.ref t]) hD)
    have hD0 : H D = none := by rw [upd_ne ntD.symm] at hD; exact hD
    refine ⟨_, rfl, (n : Int), rfl, by omega, by omega, for_range (lo := 0) (n := (n : Int).toNat) (fun i σ H' => ∃ (F : Addr) (as : List Addr) (v2 v3 v4 v5 : Option V), σ = [some (nV n), some (.ref F), v2, v3, v4, v5] ∧ Same H H' ∧ H F = none ∧ H' F = some (.lst (as.map V.ref)) ∧ Tups H' as (orders n i))
      ⟨D, [t], none, none, none, none, rfl, s1, hD0, upd_same, .cons (by rw [upd_ne ntD, upd_same]; rfl) .nil⟩ ?_ ?_⟩
    · rintro i σ H' hi ⟨F, as, v2, v3, v4, v5, rfl, sm, hF, eF, tF⟩
      refine ⟨Nat.zero_le _, fun L hL => ?_⟩
      have sL := same_new (o := .lst []) hL
      have hL0 : H L = none := sm.free hL
      have li := orders_len n i
      have l6 := six_pow (t := i) hn (by omega)
      have l7 := six_pow (t := i + 1) hn (by omega)
      rw [Nat.pow_succ] at l7
      have lF : as.length = (orders n i).length := tF.len
      refine ⟨_, rfl, F, rfl, ⟨_, SqL.of (sL _ _ eF)⟩, for_list (K := K) (a := F) (xs := as.map V.ref) (fun j σ H2 => ∃ (L2 : Addr) (bs : List Addr) (v4 v5 : Option V), σ = [some (nV n), some (.ref F), some (.int (0 + (i : Int))), some (.ref L2), v4, v5] ∧ Same H' H2 ∧ H L2 = none ∧ H2 L2 = some (.lst (bs.map V.ref)) ∧ Tups H2 bs (((orders n i).take j).flatMap (ext1 n)))
        ⟨L, [], v4, v5, rfl, sL, hL0, upd_same, .nil⟩ (fun j σ H2 _ ⟨_, _, _, _, _, s2, _⟩ => SqL.of (s2 _ _ eF)) ?_ ?_⟩
      · rintro j x σ H2 hj ⟨L2, bs, v4, v5, rfl, s2, hL2, eL2, tL2⟩
        obtain ⟨a, ha, rfl⟩ := map_at hj
        obtain ⟨so, hso, hat⟩ := tF.at ha
        have hat2 := s2 _ _ hat
        have hjl : j < (orders n i).length := (List.getElem?_eq_some_iff.mp hso).1
        have lb : bs.length ≤ j * n := by
          rw [tL2.len]
          refine Nat.le_trans (flatMap_len_le _ n (ext1_len n) _) (Nat.mul_le_mul_right n ?_)
          rw [List.length_take]
          exact Nat.min_le_left _ _
        have lb2 : j * n + n ≤ 46656 := by
          have : (j + 1) * n ≤ (orders n i).length * n := Nat.mul_le_mul_right n hjl
          have h2 : (orders n i).length * n ≤ n ^ i * n := Nat.mul_le_mul_right n li
          rw [Nat.add_mul, Nat.one_mul] at this
          omega
        refine ⟨_, rfl, _, rfl, (n : Int), rfl, by omega, by omega, fun D2 hD2 => ?_⟩
        refine lc_range (lo := 0) (n := (n : Int).toNat) (fun m H3 => ∃ cs : List Addr, H3 D2 = some (.lst (cs.map V.ref)) ∧ Same H2 H3 ∧ Tups H3 cs ((((List.range n).take m).filter fun k => !so.contains k).map fun k => so ++ [k]))
          ⟨[], upd_same, same_new hD2, .nil⟩ ?_ ?_
        · rintro m H3 hm ⟨cs, eC, s3, tC⟩
          have hm2 : m < n := by omega
          have e0 : V.int (0 + (m : Int)) = nV m := congrArg V.int (by omega)
          have hr1 : (List.range n)[m]? = some m := by rw [List.getElem?_range hm2]
          have lc : cs.length ≤ n := by
            rw [tC.len]
            exact Nat.le_trans (take_flen _ _ _ _) (by rw [List.length_range]; exact Nat.le_refl n)
          have hat3 : H3 a = some (.tup (so.map nV)) := s3 _ _ hat2
          rw [e0]
          refine ⟨rfl, _, rfl, _, rfl, a, _, rfl, .inr (SqT.of hat3), rfl, flat_nats so, _, rfl, ?_⟩
          show if (!inV (nV m) (so.map nV)) = true then _ else _
          rw [inV_nat]
          cases ec : so.contains m with
          | true =>
            refine iteF ⟨cs, eC, s3, ?_⟩
            rw [take_drop_out (fun k => !so.contains k) (fun k => so ++ [k]) hr1 (by rw [ec]; rfl)]
            exact tC
          | false =>
            refine iteT ⟨_, rfl, _, rfl, by show 1 ≤ sizeLine; decide, fun q hq => ?_⟩
            have sq := same_new (o := .tup [nV m]) hq
            have fin : ∀ (z : Addr) (H4 : Hp), Same H3 H4 → H4 z = some (.tup ((so ++ [m]).map nV)) → ∃ acc, H4 D2 = some (.lst acc) ∧ acc.length < sizeLine ∧ ∃ cs : List Addr, (upd H4 D2 (.lst (acc ++ [.ref z]))) D2 = some (.lst (cs.map V.ref)) ∧ Same H2 (upd H4 D2 (.lst (acc ++ [.ref z]))) ∧
                Tups (upd H4 D2 (.lst (acc ++ [.ref z]))) cs ((((List.range n).take (m + 1)).filter fun k => !so.contains k).map fun k => so ++ [k]) := fun z H4 s4 ez => by
              have nz : ∀ b xs, H4 b = some (.tup xs) → b ≠ D2 := fun b xs e => ne_of e (s4 _ _ eC) (by intro q; cases q)
              refine ⟨_, s4 _ _ eC, small1000 (by rw [List.length_map]; omega), cs ++ [z], by rw [upd_same, List.map_append]; rfl, fun b o q => ?_, ?_⟩
              · rw [upd_ne (fun e => by rw [e, hD2] at q; cases q)]
                exact s4 _ _ (s3 _ _ q)
              · rw [take_filter (fun k => !so.contains k) (fun k => so ++ [k]) hr1 (by rw [ec]; rfl)]
                refine Tups.app (Paired.mapP tC fun b xs e => ?_) (.cons ?_ .nil)
                · rw [upd_ne (nz _ _ (s4 _ _ e))]
                  exact s4 _ _ e
                · rw [upd_ne (nz _ _ ez)]
                  exact ez
            refine ⟨a, q, _, _, rfl, rfl, SqT.of (sq _ _ hat3), SqT.of upd_same, ?_, fun e => ?_, fun _ e => (by cases e), fun _ _ z hz => ?_⟩
            · rw [List.length_map, sizeLine_eq]
              have := (orders_mem n i so (List.mem_of_getElem? hso)).1
              show so.length + 1 ≤ _
              omega
            · have e2 : so = [] := List.map_eq_nil_iff.mp e
              exact fin q _ sq (by rw [upd_same, e2]; rfl)
            · exact fin z _ (sq.trans (same_new hz)) (by rw [upd_same, List.map_append]; rfl)
        · rintro H3 ⟨cs, eC, s3, tC⟩
          rw [show (n : Int).toNat = n by omega, List.take_of_length_le (by rw [List.length_range]; exact Nat.le_refl n)] at tC
          refine ⟨L2, D2, _, _, rfl, rfl, s3 _ _ eL2, eC, ?_, fun q hq => ?_⟩
          · rw [List.length_map, List.length_map, sizeLine_eq]
            have := tC.len
            have := ext1_len n so
            have : cs.length ≤ n := by rw [tC.len]; exact ext1_len n so
            omega
          · have sq := same_new (o := .lst (bs.map V.ref ++ cs.map V.ref)) hq
            refine ⟨q, bs ++ cs, _, _, rfl, (s2.trans s3).trans sq, ((sm.trans s2).trans s3).free hq, by rw [upd_same, List.map_append], ?_⟩
            rw [take_snoc hso, List.flatMap_append, List.flatMap_singleton]
            exact ((tL2.same s3).app tC).same sq
      · rintro σ H2 ⟨L2, bs, v4, v5, rfl, s2, hL2, eL2, tL2⟩
        rw [List.length_map, lF, List.take_length] at tL2
        exact ⟨_, rfl, L2, bs, _, _, _, _, rfl, sm.trans s2, hL2, eL2, tL2⟩
    · rintro σ H' ⟨F, as, v2, v3, v4, v5, rfl, sm, hF, eF, tF⟩
      rw [show (n : Int).toNat = n by omega] at tF
      exact ⟨_, rfl, k H' F as sm hF eF tF⟩
/-! _law_fitting -/
abbrev nFit : List Str := ["_law_rows_here", "_law_many", "_law_each"]
theorem scFit : FnScope nFit (nFit.take 2) (fnScope (top 74)) := fnScope_by (by decide +kernel)
def spFit (K : PySem.W.Frag) : Sp := fun vs H Q _ => ∃ (a : Addr) (n : Nat) (rows : List Row), vs = [.ref a, nV n] ∧ SqT K H a (rows.map rowV) ∧ n ≤ 6 ∧ rows.length ≤ 100 ∧ RowsOk n rows ∧
  ∀ (H' : Hp) (q : Addr) (xs : List V), Same H H' → H' q = some (.lst xs) → xs.length = told rows n → Q (.ref q) H'
theorem ok_fit {f : Addr} {fd : FuncData} (F : Def K mg "_law_fitting" (top 74) f fd) (b : Binds K fd (nFit.take 2) []) (cOrders : Cal P w K mg base 1 "_law_orders" spOrders []) (cAllH : Cal P w K mg base 2 "_law_all_have" (spAllH K) []) : Cal P w K mg base 3 "_law_fitting" (spFit K) [] := by
  refine cal0 F b .nil scFit (fun vs H Q E h => ?_) (fun cdv A outer s H vs Q E hr h => ?_)
  · obtain ⟨a, n, rows, rfl, _⟩ := h
    rfl
  · obtain ⟨a, n, rows, rfl, hA, hn, hl, hR, k⟩ := h
    refine ⟨_, pss_one (ps_ret (pe_lc (own := [("_law_each", 2)]) (g := gName 2) (by rfl) scFit.nd (pi_list (pe_c cOrders hr (by decide) (by rfl) (pa_cons (pv 1) pa_nil)))
        (blkOk_by (own := [("_law_each", 2)]) (N := nFit) (sc := fnScope (top 74)) (by decide +kernel)) (fun _ _ _ _ _ => pg_name (i := 2) scFit.nd rfl (Or.inl rfl))
        (fun _ _ _ _ _ => pts_one (pt_val (pe_c cAllH hr (by decide) (by rfl) (pa_cons (pv 0) (pa_cons (pv 2) pa_nil)))))
        (fun _ _ _ _ _ => pv 2))), ?_⟩
    refine ⟨_, rfl, n, rfl, hn, fun H1 q as s1 _ eq tq => ⟨q, rfl, ⟨_, SqL.of eq⟩, fun D hD => ?_⟩⟩
    have la : as.length = (orders n n).length := tq.len
    have lo := Nat.le_trans (orders_len n n) (six_pow hn hn)
    refine lc_list (K := K) (a := q) (xs := as.map V.ref) (fun i H' => ∃ xs : List V, H' D = some (.lst xs) ∧ Same H1 H' ∧ xs.length = (((orders n n).take i).filter (allHave rows)).length)
      ⟨[], upd_same, same_new hD, rfl⟩ (fun i H' _ ⟨_, _, s2, _⟩ => SqL.of (s2 _ _ eq)) ?_ ?_
    · rintro i x H' hi ⟨xs, eD, s2, hx⟩
      obtain ⟨t, ht, rfl⟩ := map_at hi
      obtain ⟨so, hso, hat⟩ := tq.at ht
      have om := orders_mem n n so (List.mem_of_getElem? hso)
      refine ⟨rfl, _, rfl, _, rfl, a, t, n, rows, so, rfl, Same.seqT (s1.trans s2) hA, SqT.of (s2 _ _ hat), by omega, hl, hR, om.2.1, fun H3 s3 => ⟨_, rfl, ?_⟩⟩
      have lx : xs.length ≤ 46656 := by
        rw [hx]
        refine Nat.le_trans (List.length_filter_le _ _) ?_
        rw [List.length_take]
        omega
      cases e : allHave rows so with
      | false =>
        refine iteF ⟨xs, s3 _ _ eD, s2.trans s3, ?_⟩
        rw [take_snoc hso, List.filter_append, List.filter_cons_of_neg (by simp [e]), List.filter_nil, List.append_nil]
        exact hx
      | true =>
        refine iteT ⟨_, rfl, xs, s3 _ _ eD, Nat.lt_of_le_of_lt lx (by decide), xs ++ [V.ref t], upd_same, fun b o z => ?_, ?_⟩
        · rw [upd_ne (fun e => by rw [e, hD] at z; cases z)]
          exact s3 _ _ (s2 _ _ z)
        · rw [take_snoc hso, List.filter_append, List.filter_cons_of_pos e, List.length_append, List.length_append, hx]
          rfl
    · rintro H' ⟨xs, eD, s2, hx⟩
      rw [List.length_map, la, List.take_length] at hx
      exact k H' D xs (s1.trans s2) eD hx
end
end RK
set_option Elab.async false
set_option linter.all false
set_option maxRecDepth 100000
namespace RK
open PySem PySem.Spec PyProof.Rows L2 C8
open SX (S)
section
variable {P : Program} {w : World} {K : PySem.W.Frag} {mg : Str → Option Value} {base : Heap}
/-! _law_begun -/
abbrev nBegun : List Str := ["_law_script", "_law_turn", "_law_own", "_law_state", "_law_cell"]
theorem scBegun : FnScope nBegun (nBegun.take 2) (fnScope (top 61)) := fnScope_by (by decide +kernel)
/-- a product of any two ints that fit -/
theorem op_mulI {X : Cx} : OpR X (binaryOp .Mult) (rI IntMulOk fun i j => .int (i * j)) := opI fun _ _ _ _ _ _ _ ok q => mul_int q ok
def spBegun (K : PySem.W.Frag) : Sp := fun vs H Q _ => ∃ (a : Addr) (t : Nat) (ns : List Int), vs = [.ref a, nV t] ∧ SqL K H a (ns.map V.int) ∧ t ≤ 5 ∧ (∀ z ∈ ns, Builtin.Int.intBits z ≤ 1048576) ∧
  ∀ (H' : Hp) (p : Addr), Same H H' → H p = none → Pail H' p 0 → Q (.ref p) H'
theorem ok_begun {f : Addr} {fd : FuncData} (F : Def K mg "_law_begun" (top 61) f fd) (b : Binds K fd (nBegun.take 2) []) (mL : mg "len" = none) (mI : mg "int" = none) (mA : mg "abs" = none) : Cal P w K mg base 1 "_law_begun" (spBegun K) [] := by
  refine cal0 F b .nil scBegun (fun vs H Q E h => ?_) (fun cdv A outer s H vs Q E hr h => ?_)
  · obtain ⟨a, t, ns, rfl, _⟩ := h
    rfl
  · obtain ⟨a, t, ns, rfl, hS, ht, hb, k⟩ := h
    refine ⟨_, pss_cut (ps_set (i := 2) scBegun.nd rfl (.inl rfl) (pe_ifExp (pt_cmpR op_lt (pv 1) (pe_callB call_len_seq (by rfl) mL PySem.boot_len (pa_cons (pv 0) pa_nil)) (nomark _)) (pe_ix ix_list (pv 0) (pv 1) (fun _ _ => rfl)) pe_int))
      (pss_cons (ps_set (i := 3) scBegun.nd rfl (.inl rfl) (pe_op op_add pe_int (pe_op op_mul pe_int (pv 1))))
      (pss_cons (ps_for PassesOwn.never rfl (pi_list (pe_slice sl_list (pv 0) po_none (po_some pe_int))) (pg_name (i := 4) scBegun.nd rfl (Or.inl rfl))
        (pss_one (ps_set (i := 3) scBegun.nd rfl (.inl rfl) (pe_op op_mod (pe_callTy call_int1 (by rfl) mI (by decide +kernel) (pa_cons (pe_op op_add (pe_op op_add (pe_op op_mul (pv 3) pe_int) (pe_op op_mul (pv 4) pe_int)) pe_int) pa_nil)) pe_int))))
      (pss_one (ps_ret (pe_lst (pa_cons (pe_ifExp (PW.pt (pw_or (pt_cmpR op_lt (pv 2) pe_int (nomark _)) (pw_or1 (pt_cmpR op_ge (pv 2) (pe_op op_pow pe_int pe_int) (nomark _))))) (pe_callB call_abs (by rfl) mA (by decide +kernel) (pa_cons (pv 2) pa_nil)) pe_int)
        (pa_cons (pe_op op_mod (pe_callTy call_int1 (by rfl) mI (by decide +kernel) (pa_cons (pe_op op_add (pe_op op_add (pe_op op_mul (pv 3) pe_int) (pe_op op_mulI (pv 2) (pv 2))) (pe_op op_mul pe_int (pv 1))) pa_nil)) pe_int) (pa_cons pe_int pa_nil)))))))), ?_⟩
    refine ⟨fun σ H' => ∃ z : Int, σ = [some (.ref a), some (nV t), some (.int z), none, none] ∧ H' = H ∧ Builtin.Int.intBits z ≤ 1048576, ?_, ?_⟩
    · refine ⟨_, rfl, _, rfl, a, _, rfl, .inl hS, _, _, rfl, rfl, _, rfl, ite2 (fun e => ?_) (fun _ => ⟨0, rfl, rfl, by decide⟩)⟩
      have hlt : t < ns.length := by
        have h1 := of_decide_eq_true e
        rw [List.length_map] at h1
        omega
      exact ⟨_, rfl, _, rfl, a, _, (t : Int), .int ns[t], rfl, rfl, hS, atI_nat (by rw [List.getElem?_map, List.getElem?_eq_getElem hlt]; rfl), ns[t], rfl, rfl, hb _ (List.getElem_mem hlt)⟩
    · rintro σ H' ⟨z, rfl, rfl, hz⟩
      refine ⟨_, rfl, _, _, rfl, rfl, .inl ⟨by decide, by decide⟩, _, _, rfl, rfl, ?_⟩
      refine ⟨_, rfl, _, rfl, a, _, rfl, hS, fun c hc => ⟨c, rfl, ⟨_, SqL.of upd_same⟩, ?_⟩⟩
      have s1 := same_new (o := .lst (cutV (ns.map V.int) none (some 6))) hc
      refine for_list (K := K) (a := c) (xs := cutV (ns.map V.int) none (some 6)) (fun i σ H2 => ∃ (st : Int) (v : Option V), σ = [some (.ref a), some (nV t), some (.int z), some (.int st), v] ∧ H2 = upd H' c (.lst (cutV (ns.map V.int) none (some 6))) ∧ -(2 ^ 60) < st ∧ st < 2 ^ 60)
        ⟨_, none, rfl, rfl, by omega, by omega⟩ (fun i σ H2 _ ⟨_, _, _, e, _⟩ => by rw [e]; exact SqL.of upd_same) ?_ ?_
      · rintro i x σ H2 hi ⟨st, v, rfl, rfl, b1, b2⟩
        obtain ⟨y, _, rfl⟩ : ∃ y : Int, y ∈ ns ∧ V.int y = x := by
          have hm : x ∈ ns.map V.int := by
            have := List.mem_of_getElem? hi
            unfold cutV at this
            exact List.mem_of_mem_drop (List.mem_of_mem_take this)
          exact List.mem_map.mp hm
        refine ⟨_, rfl, _, _, rfl, rfl, .inr ⟨by decide, by decide⟩, _, rfl, _, _, rfl, rfl, .inr ⟨by decide, by decide⟩, _, _, rfl, rfl, _, _, rfl, rfl, .inl ⟨_, rfl, _, _, rfl, rfl, (by show (0 : Int) < 2147483629; decide), ?_⟩⟩
        have g1 := Int.emod_nonneg (st * 30269 + y * 7 + 13) (show (2147483629 : Int) ≠ 0 by decide)
        have g2 := Int.emod_lt_of_pos (st * 30269 + y * 7 + 13) (show (0 : Int) < 2147483629 by decide)
        exact ⟨(st * 30269 + y * 7 + 13) % 2147483629, _, rfl, rfl, by omega, by omega⟩
      · rintro σ H2 ⟨st, v, rfl, rfl, b1, b2⟩
        have fin : ∀ x : Int, 0 ≤ x → ∀ p, (upd H' c (.lst (cutV (ns.map V.int) none (some 6)))) p = none → Q (.ref p) (upd (upd H' c (.lst (cutV (ns.map V.int) none (some 6)))) p (.lst [.int x, .int ((st * 53 + z * z + 17 * (t : Int)) % 2147483629), .int 0])) := fun x hx p hp => by
          have sp := same_new (o := .lst [.int x, .int ((st * 53 + z * z + 17 * (t : Int)) % 2147483629), .int 0]) hp
          have g1 := Int.emod_nonneg (st * 53 + z * z + 17 * (t : Int)) (show (2147483629 : Int) ≠ 0 by decide)
          have g2 := Int.emod_lt_of_pos (st * 53 + z * z + 17 * (t : Int)) (show (0 : Int) < 2147483629 by decide)
          exact k _ p (s1.trans sp) (s1.free hp) ⟨x, _, 0, upd_same, hx, g1, g2, by omega, by omega⟩
        have hm : IntMulOk z z := .of_le hz hz (by decide)
        refine ⟨_, rfl, _, _, rfl, rfl, _, rfl, ite2 (fun e => ?_) (fun e => ⟨_, rfl, _, _, rfl, rfl, ⟨by decide, by decide, by decide⟩, _, _, rfl, rfl, _, rfl, ite2 (fun e2 => ?_) (fun e2 => ?_)⟩)⟩
        · have hx : 0 ≤ if z < 0 then -z else z := by split <;> omega
          refine ⟨_, rfl, z, rfl, _, rfl, _, _, rfl, rfl, .inr ⟨by decide, by decide⟩, _, rfl, _, rfl, _, _, rfl, rfl, hm, _, _, rfl, rfl, _, rfl, _, _, rfl, rfl, .inl ⟨by decide, by decide⟩, _, _, rfl, rfl, .inl ⟨_, rfl, _, _, rfl, rfl, (by show (0 : Int) < 2147483629; decide), by show 3 ≤ sizeLine; decide, fun p hp => ?_⟩⟩
          exact fin _ hx p hp
        · have hx : 0 ≤ if z < 0 then -z else z := by split <;> omega
          refine ⟨_, rfl, z, rfl, _, rfl, _, _, rfl, rfl, .inr ⟨by decide, by decide⟩, _, rfl, _, rfl, _, _, rfl, rfl, hm, _, _, rfl, rfl, _, rfl, _, _, rfl, rfl, .inl ⟨by decide, by decide⟩, _, _, rfl, rfl, .inl ⟨_, rfl, _, _, rfl, rfl, (by show (0 : Int) < 2147483629; decide), by show 3 ≤ sizeLine; decide, fun p hp => ?_⟩⟩
          exact fin _ hx p hp
        · refine ⟨_, rfl, _, _, rfl, rfl, .inr ⟨by decide, by decide⟩, _, rfl, _, rfl, _, _, rfl, rfl, hm, _, _, rfl, rfl, _, rfl, _, _, rfl, rfl, .inl ⟨by decide, by decide⟩, _, _, rfl, rfl, .inl ⟨_, rfl, _, _, rfl, rfl, (by show (0 : Int) < 2147483629; decide), by show 3 ≤ sizeLine; decide, fun p hp => ?_⟩⟩
          exact fin 0 (Int.le_refl 0) p hp
end
end RK
set_option Elab.async false
set_option linter.all false
set_option maxRecDepth 100000
namespace RK
open PySem PySem.Spec PyProof.Rows L2 C8
open SX (S)
section
variable {P : Program} {w : World} {K : PySem.W.Frag} {mg : Str → Option Value} {base : Heap}
/-! the readers' tests, where they say yes -/
def Lower (x : List Nat) : Prop := 1 ≤ x.length ∧ x.length ≤ 8 ∧ ∀ c ∈ x, c ∈ TL.tl ("abcdefghijklmnopqrstuvwxyz" : Str)
theorem menu_lower : ∀ x ∈ menu0, Lower x := by
  have h : (menu0.all fun x => decide (1 ≤ x.length) && decide (x.length ≤ 8) && x.all fun c => decide (c ∈ TL.tl ("abcdefghijklmnopqrstuvwxyz" : Str))) = true := by decide +kernel
  intro x hx
  have h2 := List.all_eq_true.mp h x hx
  rw [Bool.and_eq_true, Bool.and_eq_true, decide_eq_true_iff, decide_eq_true_iff, List.all_eq_true] at h2
  exact ⟨h2.1.1, h2.1.2, fun c hc => of_decide_eq_true (h2.2 c hc)⟩
theorem Acc.trues {D : Addr} {H0 H' : Hp} {n : Nat} (h : Acc D H0 (List.replicate n (V.bl true)) H') : H' D = some (.lst ((List.replicate n true).map V.bl)) := by
  rw [List.map_replicate]
  exact h.at_
theorem all_trues (n : Nat) : (List.replicate n true).all id = true := by
  rw [List.all_replicate]
  split <;> rfl
theorem sign_in {x : List Nat} {i : Nat} {c : Nat} (h : (S x).cps[i]? = some c) : x[i]? = some c := by
  have e : (S x).cps[i]? = x[i]? := by simp
  rwa [e] at h
theorem S_size (x : List Nat) : (S x).cps.size = x.length := by simp
/-- what a test of every sign says -/
theorem all_signs {te : TE} {σ : L2.St} {H : Hp} {x : List Nat} {D : Addr} {j : Nat} {Qd : Hp → Prop} (hD : H D = none) (hl : x.length ≤ 1000)
    (ht : ∀ (c : Nat) (H' : Hp) (i : Nat), x[i]? = some c → Acc D H (List.replicate i (V.bl true)) H' → te ((wipe σ [j]).set j (some (.str ⟨#[c]⟩))) H' fun y H4 => ∃ acc, H4 D = some (.lst acc) ∧ acc.length < sizeLine ∧ Acc D H (List.replicate (i + 1) (V.bl true)) (upd H4 D (.lst (acc ++ [y]))))
    (hw : ∀ v, wipe ((wipe σ [j]).set j (some v)) [j] = wipe σ [j])
    (hd : ∀ H', Acc D H (List.replicate x.length (V.bl true)) H' → Qd H') :
    ∃ W : Nat → Nat → Hp → Prop, (∃ m, W 0 m (upd H D (.lst []))) ∧ ∀ i m H, W i m H →
      ((Its (S x)).stop i H ∧ Qd H) ∨ ((Its (S x)).go i H ∧ ∃ Nx : Hp → Prop, (∀ H', Nx H' → ∃ m', m' < m ∧ W (i + 1) m' H') ∧ ∀ z H', (Its (S x)).yld i H z H' → gName j z (wipe σ [j]) H' fun σ2 H2 => wipe σ2 [j] = wipe σ [j] ∧ tYes σ2 H2 fun b H3 =>
        if b = true then te σ2 H3 fun y H4 => ∃ acc, H4 D = some (.lst acc) ∧ acc.length < sizeLine ∧ Nx (upd H4 D (.lst (acc ++ [y]))) else Nx H3) := by
  refine lc_it walk_str (fun i H' => Acc D H (List.replicate i (V.bl true)) H') (acc_start hD) (fun _ _ _ _ => trivial) ?_ ?_
  · rintro i z H' H'' hi hA ⟨rfl, c, hc, rfl⟩
    exact ⟨hw _, ht c H'' i (sign_in hc) hA⟩
  · intro H' hA
    rw [S_size] at hA
    exact hd H' hA
theorem rep_step {D : Addr} {H0 H' H4 : Hp} {i : Nat} (nD : H0 D = none) (h : Acc D H0 (List.replicate i (V.bl true)) H') (e : Same H' H4) (hl : i ≤ 1000) :
    ∃ acc, H4 D = some (.lst acc) ∧ acc.length < sizeLine ∧ Acc D H0 (List.replicate (i + 1) (V.bl true)) (upd H4 D (.lst (acc ++ [.bl true]))) :=
  acc_step nD h e (by rw [List.length_replicate]; omega) List.replicate_succ'
/-! is_name -/
abbrev nIsName : List Str := ["value", "sign"]
theorem scIsName : FnScope nIsName (nIsName.take 1) (fnScope (top 11)) := fnScope_by (by decide +kernel)
def spLower : Sp := fun vs H Q _ => ∃ x : List Nat, vs = [strV x] ∧ Lower x ∧ ∀ H', Same H H' → Q (.bl true) H'
theorem ok_isName {f : Addr} {fd : FuncData} (F : Def K mg "is_name" (top 11) f fd) (b : Binds K fd (nIsName.take 1) []) (mIs : mg "isinstance" = none) (mStr : mg "str" = none) (mL : mg "len" = none) (mAll : mg "all" = none) (mLet : ∃ u, mg "LETTERS" = some u ∧ RelV (.str "abcdefghijklmnopqrstuvwxyz") u) :
    Cal P w K mg base 1 "is_name" spLower [] := by
  refine cal0 F b .nil scIsName (fun vs H Q E h => ?_) (fun cdv A outer s H vs Q E hr h => ?_)
  · obtain ⟨x, rfl, _⟩ := h
    rfl
  · obtain ⟨x, rfl, ⟨h1, h2, h3⟩, k⟩ := h
    refine ⟨_, pss_one (ps_ret (pe_and (pe_callB call_isi (by rfl) mIs (by decide +kernel) (pa_cons (pv 0) (pa_cons (pe_bltn (v := .ty "str") (by rfl) mStr (by decide +kernel) rfl) pa_nil)))
      (pe_and (pe_chain op_le op_le pe_int (pe_callB call_len_str (by rfl) mL PySem.boot_len (pa_cons (pv 0) pa_nil)) pe_int)
      (pe_one (pe_callB (cr_all rfl) (by rfl) mAll (by decide +kernel) (pa_cons (pe_lc (own := [("sign", 1)]) (g := gName 1) (tt := tYes) (by rfl) scIsName.nd (pi_str (pv 0))
        (blkOk_by (own := [("sign", 1)]) (N := nIsName) (sc := fnScope (top 11)) (by decide +kernel)) (fun _ _ _ _ _ => pg_name (i := 1) scIsName.nd rfl (Or.inl rfl)) (fun _ _ _ _ _ => pts_nil)
        (fun _ _ _ _ _ => pe_cmpR op_in_sign (pv 1) (pe_gc (by rfl) mLet) (by rfl))) pa_nil)))))), ?_⟩
    have hz : (S x).length ≤ sizeLine := by rw [SX.S_len]; exact Nat.le_trans h2 (by decide)
    refine ⟨_, rfl, _, .ty "str", _, _, true, rfl, .ty "str", .base (.str _), kit_ty (by decide +kernel), true, rfl, iteT ⟨_, rfl, _, rfl, hz, _, _, rfl, rfl, _, rfl, ?_⟩⟩
    rw [SX.S_len, decide_eq_true (show (1 : Int) ≤ (x.length : Int) by omega)]
    refine iteT ⟨_, _, rfl, rfl, _, rfl, ?_⟩
    rw [decide_eq_true (show (x.length : Int) ≤ 8 by omega)]
    refine iteT ⟨_, rfl, _, rfl, fun D hD => ?_⟩
    refine all_signs hD (by omega) (fun c H' i hc hA => ?_) (fun _ => rfl) fun H' hA => ?_
    · refine ⟨_, rfl, c, _, rfl, rfl, ?_⟩
      rw [decide_eq_true (show c ∈ ("abcdefghijklmnopqrstuvwxyz" : Str).cps.toList from h3 c (List.mem_of_getElem? hc))]
      exact rep_step hD hA (.refl _) (by have := (List.getElem?_eq_some_iff.mp hc).1; omega)
    · refine ⟨D, _, rfl, SqL.of hA.trues, ?_⟩
      rw [all_trues]
      exact k H' hA.sm
/-! is_word -/
theorem scIsWord : FnScope nIsName (nIsName.take 1) (fnScope (top 28)) := fnScope_by (by decide +kernel)
theorem ok_isWord {f : Addr} {fd : FuncData} (F : Def K mg "is_word" (top 28) f fd) (b : Binds K fd (nIsName.take 1) []) (mL : mg "len" = none) (mAll : mg "all" = none) (mLet : ∃ u, mg "SMALL" = some u ∧ RelV (.str "abcdefghijklmnopqrstuvwxyz") u) :
    Cal P w K mg base 1 "is_word" spLower [] := by
  refine cal0 F b .nil scIsWord (fun vs H Q E h => ?_) (fun cdv A outer s H vs Q E hr h => ?_)
  · obtain ⟨x, rfl, _⟩ := h
    rfl
  · obtain ⟨x, rfl, ⟨h1, h2, h3⟩, k⟩ := h
    refine ⟨_, pss_one (ps_ret (pe_and (pe_chain op_le op_le pe_int (pe_callB call_len_str (by rfl) mL PySem.boot_len (pa_cons (pv 0) pa_nil)) pe_int)
      (pe_one (pe_callB (cr_all rfl) (by rfl) mAll (by decide +kernel) (pa_cons (pe_lc (own := [("sign", 1)]) (g := gName 1) (tt := tYes) (by rfl) scIsWord.nd (pi_str (pv 0))
        (blkOk_by (own := [("sign", 1)]) (N := nIsName) (sc := fnScope (top 28)) (by decide +kernel)) (fun _ _ _ _ _ => pg_name (i := 1) scIsWord.nd rfl (Or.inl rfl)) (fun _ _ _ _ _ => pts_nil)
        (fun _ _ _ _ _ => pe_cmpR op_in_sign (pv 1) (pe_gc (by rfl) mLet) (by rfl))) pa_nil))))), ?_⟩
    have hz : (S x).length ≤ sizeLine := by rw [SX.S_len]; exact Nat.le_trans h2 (by decide)
    refine ⟨_, rfl, _, rfl, hz, _, _, rfl, rfl, _, rfl, ?_⟩
    rw [SX.S_len, decide_eq_true (show (1 : Int) ≤ (x.length : Int) by omega)]
    refine iteT ⟨_, _, rfl, rfl, _, rfl, ?_⟩
    rw [decide_eq_true (show (x.length : Int) ≤ 8 by omega)]
    refine iteT ⟨_, rfl, _, rfl, fun D hD => ?_⟩
    refine all_signs hD (by omega) (fun c H' i hc hA => ?_) (fun _ => rfl) fun H' hA => ?_
    · refine ⟨_, rfl, c, _, rfl, rfl, ?_⟩
      rw [decide_eq_true (show c ∈ ("abcdefghijklmnopqrstuvwxyz" : Str).cps.toList from h3 c (List.mem_of_getElem? hc))]
      exact rep_step hD hA (.refl _) (by have := (List.getElem?_eq_some_iff.mp hc).1; omega)
    · refine ⟨D, _, rfl, SqL.of hA.trues, ?_⟩
      rw [all_trues]
      exact k H' hA.sm
/-! is_row, is_line -/
abbrev nIsRow : List Str := ["value", "many", "sign"]
theorem scIsRow : FnScope nIsRow (nIsRow.take 2) (fnScope (top 14)) := fnScope_by (by decide +kernel)
def spIsRow : Sp := fun vs H Q _ => ∃ (r : Row) (n : Nat), vs = [rowV r, nV n] ∧ r.length = n ∧ n ≤ 8 ∧ Signs r ∧ ∀ H', Same H H' → Q (.bl true) H'
theorem signs_mem {c : Nat} (h : c = 43 ∨ c = 45 ∨ c = 46) : c ∈ ("+-." : Str).cps.toList := by
  rcases h with rfl | rfl | rfl <;> decide +kernel
theorem ok_isRow {f : Addr} {fd : FuncData} (F : Def K mg "is_row" (top 14) f fd) (b : Binds K fd (nIsRow.take 2) []) (mIs : mg "isinstance" = none) (mStr : mg "str" = none) (mL : mg "len" = none) (mAll : mg "all" = none) :
    Cal P w K mg base 1 "is_row" spIsRow [] := by
  refine cal0 F b .nil scIsRow (fun vs H Q E h => ?_) (fun cdv A outer s H vs Q E hr h => ?_)
  · obtain ⟨x, n, rfl, _⟩ := h
    rfl
  · obtain ⟨x, n, rfl, h1, h2, h3, k⟩ := h
    refine ⟨_, pss_one (ps_ret (pe_and (pe_callB call_isi (by rfl) mIs (by decide +kernel) (pa_cons (pv 0) (pa_cons (pe_bltn (v := .ty "str") (by rfl) mStr (by decide +kernel) rfl) pa_nil)))
      (pe_and (pe_cmpR op_eq (pe_callB call_len_str (by rfl) mL PySem.boot_len (pa_cons (pv 0) pa_nil)) (pv 1) (nomark _))
      (pe_one (pe_callB (cr_all rfl) (by rfl) mAll (by decide +kernel) (pa_cons (pe_lc (own := [("sign", 2)]) (g := gName 2) (tt := tYes) (by rfl) scIsRow.nd (pi_str (pv 0))
        (blkOk_by (own := [("sign", 2)]) (N := nIsRow) (sc := fnScope (top 14)) (by decide +kernel)) (fun _ _ _ _ _ => pg_name (i := 2) scIsRow.nd rfl (Or.inl rfl)) (fun _ _ _ _ _ => pts_nil)
        (fun _ _ _ _ _ => pe_cmpR op_in_sign (pv 2) pe_str (by rfl))) pa_nil)))))), ?_⟩
    have hz : (S x).length ≤ sizeLine := by rw [SX.S_len]; exact Nat.le_trans (by omega) (show 8 ≤ sizeLine by decide)
    refine ⟨_, rfl, _, .ty "str", _, _, true, rfl, .ty "str", .base (.str _), kit_ty (by decide +kernel), true, rfl, iteT ⟨_, rfl, _, rfl, hz, _, rfl, rfl, _, rfl, ?_⟩⟩
    rw [SX.S_len, h1, decide_eq_true rfl]
    refine iteT ⟨_, rfl, _, rfl, fun D hD => ?_⟩
    refine all_signs hD (by omega) (fun c H' i hc hA => ?_) (fun _ => rfl) fun H' hA => ?_
    · refine ⟨_, rfl, c, _, rfl, rfl, ?_⟩
      rw [decide_eq_true (signs_mem (h3 c (List.mem_of_getElem? hc)))]
      exact rep_step hD hA (.refl _) (by have := (List.getElem?_eq_some_iff.mp hc).1; omega)
    · refine ⟨D, _, rfl, SqL.of hA.trues, ?_⟩
      rw [all_trues]
      exact k H' hA.sm
theorem scIsLine : FnScope nIsRow (nIsRow.take 2) (fnScope (top 30)) := fnScope_by (by decide +kernel)
theorem ok_isLine {f : Addr} {fd : FuncData} (F : Def K mg "is_line" (top 30) f fd) (b : Binds K fd (nIsRow.take 2) []) (mIs : mg "isinstance" = none) (mStr : mg "str" = none) (mL : mg "len" = none) (mAll : mg "all" = none) (mSg : ∃ u, mg "SIGNS" = some u ∧ RelV (.str "+-.") u) :
    Cal P w K mg base 1 "is_line" spIsRow [] := by
  refine cal0 F b .nil scIsLine (fun vs H Q E h => ?_) (fun cdv A outer s H vs Q E hr h => ?_)
  · obtain ⟨x, n, rfl, _⟩ := h
    rfl
  · obtain ⟨x, n, rfl, h1, h2, h3, k⟩ := h
    refine ⟨_, pss_one (ps_ret (pe_and (pe_callB call_isi (by rfl) mIs (by decide +kernel) (pa_cons (pv 0) (pa_cons (pe_bltn (v := .ty "str") (by rfl) mStr (by decide +kernel) rfl) pa_nil)))
      (pe_and (pe_cmpR op_eq (pe_callB call_len_str (by rfl) mL PySem.boot_len (pa_cons (pv 0) pa_nil)) (pv 1) (nomark _))
      (pe_one (pe_callB (cr_all rfl) (by rfl) mAll (by decide +kernel) (pa_cons (pe_lc (own := [("sign", 2)]) (g := gName 2) (tt := tYes) (by rfl) scIsLine.nd (pi_str (pv 0))
        (blkOk_by (own := [("sign", 2)]) (N := nIsRow) (sc := fnScope (top 30)) (by decide +kernel)) (fun _ _ _ _ _ => pg_name (i := 2) scIsLine.nd rfl (Or.inl rfl)) (fun _ _ _ _ _ => pts_nil)
        (fun _ _ _ _ _ => pe_cmpR op_in_sign (pv 2) (pe_gc (by rfl) mSg) (by rfl))) pa_nil)))))), ?_⟩
    have hz : (S x).length ≤ sizeLine := by rw [SX.S_len]; exact Nat.le_trans (by omega) (show 8 ≤ sizeLine by decide)
    refine ⟨_, rfl, _, .ty "str", _, _, true, rfl, .ty "str", .base (.str _), kit_ty (by decide +kernel), true, rfl, iteT ⟨_, rfl, _, rfl, hz, _, rfl, rfl, _, rfl, ?_⟩⟩
    rw [SX.S_len, h1, decide_eq_true rfl]
    refine iteT ⟨_, rfl, _, rfl, fun D hD => ?_⟩
    refine all_signs hD (by omega) (fun c H' i hc hA => ?_) (fun _ => rfl) fun H' hA => ?_
    · refine ⟨_, rfl, c, _, rfl, rfl, ?_⟩
      rw [decide_eq_true (signs_mem (h3 c (List.mem_of_getElem? hc)))]
      exact rep_step hD hA (.refl _) (by have := (List.getElem?_eq_some_iff.mp hc).1; omega)
    · refine ⟨D, _, rfl, SqL.of hA.trues, ?_⟩
      rw [all_trues]
      exact k H' hA.sm
end
end RK
set_option Elab.async false
set_option linter.all false
set_option maxRecDepth 100000
namespace RK
open PySem PySem.Spec PyProof.Rows L2 C8
open SX (S)
section
variable {P : Program} {w : World} {K : PySem.W.Frag} {mg : Str → Option Value} {base : Heap}
/-! are_ascending -/
abbrev nAsc : List Str := ["values", "one", "later"]
theorem scAsc : FnScope nAsc (nAsc.take 1) (fnScope (top 12)) := fnScope_by (by decide +kernel)
def spAsc (K : PySem.W.Frag) : Sp := fun vs H Q _ => ∃ (a : Addr) (ws : List (List Nat)), vs = [.ref a] ∧ SqL K H a (ws.map strV) ∧ ws.Pairwise (· < ·) ∧ ws.length ≤ 100 ∧ ∀ H', Same H H' → Q (.bl true) H'
theorem cut_one (xs : List V) : cutV xs (some 1) none = xs.drop 1 := by
  unfold cutV
  rw [show HT.sIx xs.length 0 (some 1) = min 1 xs.length from HT.sIx_nat xs.length 0 1, HT.sIx_none]
  cases xs with
  | nil => rfl
  | cons x r =>
    rw [show min 1 (x :: r).length = 1 by rw [List.length_cons]; omega]
    exact List.take_of_length_le (by rw [List.length_drop]; exact Nat.le_refl _)
theorem pw_next {ws : List (List Nat)} (h : ws.Pairwise (· < ·)) {i : Nat} {x y : List Nat} (hx : ws[i]? = some x) (hy : ws[i + 1]? = some y) : x < y := by
  obtain ⟨h1, e1⟩ := List.getElem?_eq_some_iff.mp hx
  obtain ⟨h2, e2⟩ := List.getElem?_eq_some_iff.mp hy
  have := List.pairwise_iff_getElem.mp h i (i + 1) h1 h2 (Nat.lt_succ_self i)
  rwa [e1, e2] at this
theorem ok_asc {f : Addr} {fd : FuncData} (F : Def K mg "are_ascending" (top 12) f fd) (b : Binds K fd (nAsc.take 1) []) (mZ : mg "zip" = none) (mAll : mg "all" = none) : Cal P w K mg base 1 "are_ascending" (spAsc K) [] := by
  refine cal0 F b .nil scAsc (fun vs H Q E h => ?_) (fun cdv A outer s H vs Q E hr h => ?_)
  · obtain ⟨a, ws, rfl, _⟩ := h
    rfl
  · obtain ⟨a, ws, rfl, hS, hp, hl, k⟩ := h
    refine ⟨_, pss_one (ps_ret (pe_callB (cr_all rfl) (by rfl) mAll (by decide +kernel) (pa_cons (pe_lc (own := [("one", 1), ("later", 2)]) (g := gTup K 2 (gCons (gName 1) (gCons (gName 2) gNil))) (tt := tYes) (by rfl) scAsc.nd
        (pi_zip (by rfl) mZ (pa_cons (pv 0) (pa_cons (pe_slice sl_list (pv 0) (po_some pe_int) po_none) pa_nil)))
        (blkOk_by (own := [("one", 1), ("later", 2)]) (N := nAsc) (sc := fnScope (top 12)) (by decide +kernel))
        (fun _ _ _ _ _ => pg_tup (by rfl) (pgs_cons (pg_name (i := 1) scAsc.nd rfl (Or.inl rfl)) (pgs_cons (pg_name (i := 2) scAsc.nd rfl (Or.inl rfl)) pgs_nil))) (fun _ _ _ _ _ => pts_nil)
        (fun _ _ _ _ _ => pe_cmpR op_lt_str (pv 1) (pv 2) (nomark _))) pa_nil))), ?_⟩
    refine ⟨_, rfl, _, rfl, 1, rfl, a, _, rfl, hS, fun c hc => ?_⟩
    have s1 := same_new (o := .lst (cutV (ws.map strV) (some 1) none)) hc
    have hS1 := Same.seq s1 hS
    refine ⟨a, c, ws.map strV, cutV (ws.map strV) (some 1) none, rfl, hS1, SqL.of upd_same, fun D hD => ?_⟩
    refine lc_it (walk_zip rfl) (fun i H' => Acc D (upd H c (.lst (cutV (ws.map strV) (some 1) none))) (List.replicate i (V.bl true)) H') (acc_start hD)
      (fun i H' _ hA => ⟨Same.seq hA.sm hS1, Same.seq hA.sm (SqL.of upd_same)⟩) ?_ ?_
    · rintro i x H' H'' hi hA ⟨T, u, v, rfl, hT, rfl, e1, e2⟩
      obtain ⟨x1, hx1, rfl⟩ := map_at e1
      rw [cut_one, ← List.map_drop] at e2
      obtain ⟨y1, hy1, rfl⟩ := map_at e2
      rw [List.getElem?_drop, Nat.add_comm] at hy1
      have sT := same_new (o := .tup [strV x1, strV y1]) hT
      refine ⟨T, _, rfl, SqT.of upd_same, rfl, _, _, rfl, _, _, rfl, rfl, rfl, _, rfl, _, rfl, _, _, rfl, rfl, ?_⟩
      rw [decide_eq_true (show (S x1).cps.toList < (S y1).cps.toList from pw_next hp hx1 hy1)]
      refine rep_step hD hA sT ?_
      have := (List.getElem?_eq_some_iff.mp hx1).1
      omega
    · intro H' hA
      refine ⟨D, _, rfl, SqL.of hA.trues, ?_⟩
      rw [all_trues]
      exact k H' (s1.trans hA.sm)
/-! are_names -/
abbrev nNames : List Str := ["names", "name"]
theorem scNames : FnScope nNames (nNames.take 1) (fnScope (top 15)) := fnScope_by (by decide +kernel)
def spNames (K : PySem.W.Frag) : Sp := fun vs H Q _ => ∃ (a : Addr) (ws : List (List Nat)), vs = [.ref a] ∧ SqL K H a (ws.map strV) ∧ 1 ≤ ws.length ∧ ws.length ≤ 8 ∧ ws.Pairwise (· < ·) ∧ (∀ x ∈ ws, Lower x) ∧ ∀ H', Same H H' → Q (.bl true) H'
theorem ok_names {f : Addr} {fd : FuncData} (F : Def K mg "are_names" (top 15) f fd) (b : Binds K fd (nNames.take 1) []) (cIs : Cal P w K mg base 1 "is_name" spLower []) (cAsc : Cal P w K mg base 1 "are_ascending" (spAsc K) []) (mL : mg "len" = none) (mAll : mg "all" = none)
    (mM : ∃ u, mg "MOST_RULES" = some u ∧ RelV (.int 8) u) : Cal P w K mg base 2 "are_names" (spNames K) [] := by
  refine cal0 F b .nil scNames (fun vs H Q E h => ?_) (fun cdv A outer s H vs Q E hr h => ?_)
  · obtain ⟨a, ws, rfl, _⟩ := h
    rfl
  · obtain ⟨a, ws, rfl, hS, h1, h2, hp, hw, k⟩ := h
    refine ⟨_, pss_one (ps_ret (pe_and (pe_chain op_le op_le pe_int (pe_callB call_len_seq (by rfl) mL PySem.boot_len (pa_cons (pv 0) pa_nil)) (pe_gc (by rfl) mM))
      (pe_and (pe_callB (cr_all rfl) (by rfl) mAll (by decide +kernel) (pa_cons (pe_lc (own := [("name", 1)]) (g := gName 1) (tt := tYes) (by rfl) scNames.nd (pi_list (pv 0))
        (blkOk_by (own := [("name", 1)]) (N := nNames) (sc := fnScope (top 15)) (by decide +kernel)) (fun _ _ _ _ _ => pg_name (i := 1) scNames.nd rfl (Or.inl rfl)) (fun _ _ _ _ _ => pts_nil)
        (fun _ _ _ _ _ => pe_c cIs hr (by decide) (by rfl) (pa_cons (pv 1) pa_nil))) pa_nil))
      (pe_one (pe_c cAsc hr (by decide) (by rfl) (pa_cons (pv 0) pa_nil)))))), ?_⟩
    refine ⟨_, rfl, a, _, rfl, .inl hS, _, _, rfl, rfl, _, rfl, ?_⟩
    rw [List.length_map, decide_eq_true (show (1 : Int) ≤ (ws.length : Int) by omega)]
    refine iteT ⟨_, _, rfl, rfl, _, rfl, ?_⟩
    rw [decide_eq_true (show (ws.length : Int) ≤ 8 by omega)]
    refine iteT ⟨_, rfl, a, rfl, ⟨_, hS⟩, fun D hD => ?_⟩
    refine lc_list (K := K) (a := a) (xs := ws.map strV) (fun i H' => Acc D H (List.replicate i (V.bl true)) H') (acc_start hD) (fun i H' _ hA => Same.seq hA.sm hS) ?_ ?_
    · rintro i x H' hi hA
      obtain ⟨x1, hx1, rfl⟩ := map_at hi
      refine ⟨rfl, _, rfl, x1, rfl, hw x1 (List.mem_of_getElem? hx1), fun H2 s2 => rep_step hD hA s2 ?_⟩
      have := (List.getElem?_eq_some_iff.mp hx1).1
      omega
    · intro H' hA
      refine ⟨D, _, rfl, SqL.of hA.trues, ?_⟩
      rw [all_trues]
      exact ⟨true, rfl, iteT ⟨_, rfl, a, ws, rfl, Same.seq hA.sm hS, hp, by omega, fun H2 s2 => k H2 (hA.sm.trans s2)⟩⟩
/-! the text of a book -/
structure GoodB (ws : List (List Nat)) (rows : List Row) : Prop where
  h1 : 1 ≤ ws.length
  h2 : ws.length ≤ 6
  pw : ws.Pairwise (· < ·)
  low : ∀ x ∈ ws, Lower x
  hr : rows.length ≤ 8
  ok : RowsOk ws.length rows
theorem letters_range : ∀ c ∈ TL.tl ("abcdefghijklmnopqrstuvwxyz" : Str), 97 ≤ c ∧ c ≤ 122 := by decide +kernel
theorem Lower.free {x : List Nat} (h : Lower x) {d : Nat} (hd : d < 97) : d ∉ x := fun hm => by
  have := (letters_range d (h.2.2 d hm)).1
  omega
theorem Signs.free {r : Row} (h : Signs r) {d : Nat} (hd : d ≠ 43 ∧ d ≠ 45 ∧ d ≠ 46) : d ∉ r := fun hm => by
  rcases h d hm with e | e | e
  · exact hd.1 e
  · exact hd.2.1 e
  · exact hd.2.2 e
theorem joinL_free {d s : Nat} (hs : d ≠ s) : ∀ {l : List (List Nat)}, (∀ x ∈ l, d ∉ x) → d ∉ TL.joinL [s] l
  | [], _, h => absurd h List.not_mem_nil
  | [p], h, hm => h p List.mem_cons_self hm
  | p :: q :: r, h, hm => by
    have hm' : d ∈ p ++ ([s] ++ TL.joinL [s] (q :: r)) := hm
    rcases List.mem_append.mp hm' with hm' | hm'
    · exact h p List.mem_cons_self hm'
    · rcases List.mem_append.mp hm' with hm' | hm'
      · exact hs (List.mem_singleton.mp hm')
      · exact joinL_free hs (fun x hx => h x (List.mem_cons_of_mem _ hx)) hm'
abbrev tailOf (rows : List Row) : List Nat := (rows.map fun r => 32 :: r).flatten
theorem tail_cons : ∀ {rows : List Row}, rows ≠ [] → tailOf rows = 32 :: TL.joinL [32] rows
  | [], h => absurd rfl h
  | [r], _ => by
    show (32 :: r) ++ [] = 32 :: r
    rw [List.append_nil]
  | r :: q :: l, _ => by
    show (32 :: r) ++ tailOf (q :: l) = 32 :: (r ++ ([32] ++ TL.joinL [32] (q :: l)))
    rw [tail_cons (rows := q :: l) (by intro h; cases h)]
    rfl
theorem tail_free {rows : List Row} {n : Nat} (h : RowsOk n rows) : 58 ∉ tailOf rows := fun hm => by
  obtain ⟨l, hl, hc⟩ := List.mem_flatten.mp hm
  obtain ⟨r, hr, rfl⟩ := List.mem_map.mp hl
  rcases List.mem_cons.mp hc with e | hc
  · cases e
  · exact (h r hr).2.free (by decide) hc
theorem said_split {ws : List (List Nat)} {rows : List Row} (g : GoodB ws rows) : Txt.split (S (said ws rows)) (S [58]) = [S (TL.joinL [32] ws), S (tailOf rows)] := by
  rw [SX.split_S (by decide) (by decide)]
  have hJ : 58 ∉ TL.joinL [32] ws := joinL_free (by decide) fun x hx => (g.low x hx).free (by decide)
  have e : TL.spl [58] 0 [] (said ws rows) = [TL.joinL [32] ws, tailOf rows] := by
    unfold said
    rw [List.append_assoc]
    have e1 := TL.spl_part1 (s := 58) (S := []) (p := TL.joinL [32] ws) (rest := tailOf rows) (acc := []) hJ
    have e2 := TL.spl_last1 (s := 58) (S := []) (p := tailOf rows) (acc := []) (tail_free g.ok)
    rw [List.nil_append] at e1 e2
    exact e1.trans (by rw [e2])
  rw [e]
  rfl
theorem head_split {ws : List (List Nat)} {rows : List Row} (g : GoodB ws rows) : Txt.split (S (TL.joinL [32] ws)) (S [32]) = ws.map S := by
  rw [SX.split_S (by decide) (by decide), SX.spl_join (fun e => by have := g.h1; rw [e] at this; exact absurd this (by decide)) fun x hx => (g.low x hx).free (by decide)]
theorem rows_split {ws : List (List Nat)} {rows : List Row} (g : GoodB ws rows) (hne : rows ≠ []) : Txt.split (S (TL.joinL [32] rows)) (S [32]) = rows.map S := by
  rw [SX.split_S (by decide) (by decide), SX.spl_join hne fun x hx => (g.ok x hx).2.free (by decide)]
theorem tail_split {ws : List (List Nat)} {rows : List Row} (g : GoodB ws rows) : Txt.split (S (tailOf rows)) (S [32]) = S [] :: rows.map S := by
  rw [SX.split_S (by decide) (by decide)]
  by_cases hne : rows = []
  · subst hne
    rfl
  · rw [tail_cons hne]
    have e1 := TL.spl_part1 (s := 32) (S := []) (p := []) (rest := TL.joinL [32] rows) (acc := []) List.not_mem_nil
    have e2 := SX.spl_join (c := 32) (sep := []) hne fun x hx => (g.ok x hx).2.free (by decide)
    have e3 : TL.spl [32] 0 [] (32 :: TL.joinL [32] rows) = [] :: rows := e1.trans (by rw [e2]; rfl)
    rw [e3]
    rfl
theorem said_count {ws : List (List Nat)} {rows : List Row} (g : GoodB ws rows) : Txt.count (S (said ws rows)) (S [58]) = 1 := by
  have hJ : 58 ∉ TL.joinL [32] ws := joinL_free (by decide) fun x hx => (g.low x hx).free (by decide)
  rw [show S [58] = ⟨#[58]⟩ from rfl, count_cnt]
  show cnt 58 (TL.joinL [32] ws ++ [58] ++ tailOf rows) = 1
  rw [cnt_append, cnt_append, cnt_none _ _ hJ, cnt_none _ _ (tail_free g.ok), cnt_cons, cnt_nil]
  decide
theorem said_len {ws : List (List Nat)} {rows : List Row} (g : GoodB ws rows) : (TL.joinL [32] ws).length ≤ 60 ∧ (tailOf rows).length ≤ 72 ∧ (TL.joinL [32] rows).length ≤ 72 ∧ (said ws rows).length ≤ 133 := by
  have a1 := joinL_len [32] ws
  have a2 : (ws.map (·.length)).sum ≤ ws.length * 8 := sum_le _ 8 ws fun x hx => (g.low x hx).2.1
  have a3 : ws.length * [32].length = ws.length := Nat.mul_one _
  have b0 : ∀ r ∈ rows, r.length ≤ 8 := fun r hr => by have := (g.ok r hr).1; have := g.h2; omega
  have b1 := joinL_len [32] rows
  have b2 : (List.map (fun (x : List Nat) => x.length) rows).sum ≤ rows.length * 8 := sum_le _ 8 rows b0
  have b3 : rows.length * [32].length = rows.length := Nat.mul_one _
  have := g.h2
  have := g.hr
  have c1 : (tailOf rows).length ≤ rows.length * 9 := by
    rw [List.length_flatten, List.map_map]
    exact sum_le _ 9 rows fun r hr => by
      show (32 :: r).length ≤ 9
      rw [List.length_cons]
      have := b0 r hr
      omega
  have c2 : (said ws rows).length = (TL.joinL [32] ws).length + 1 + (tailOf rows).length := by
    unfold said
    rw [List.length_append, List.length_append]
    rfl
  omega
end
end RK
set_option Elab.async false
set_option linter.all false
set_option maxRecDepth 100000
namespace RK
open PySem PySem.Spec PyProof.Rows L2 C8
open SX (S)
section
variable {P : Program} {w : World} {K : PySem.W.Frag} {mg : Str → Option Value} {base : Heap}
/-! rules of our own -/
section
variable {X : Cx} {pos : Pos}
/-- a target o.f of an own instance -/
def gAttr (K : PySem.W.Frag) (to : TE) (f : Str) : TG := fun v σ H Q => to σ H fun x H1 => ∃ (a C dx : Addr) (fs : List (Str × V)), x = .ref a ∧ H1 a = some (.ins C dx fs) ∧ Cls K C ∧ NoAttr K C f ∧ fs.length < 1000 ∧ Q σ (upd H1 a (.ins C dx (putF f v fs)))
theorem pg_attr {o : Expr} {f : Str} {to : TE} (ho : PE X o to)
    (hs : ∀ v, assign (.Attribute o f pos) X.env v = (holding [v] (eval o X.env) >>= fun ov => standAt pos.atName >>= fun _ => holding [v, ov] (setAttr ov f v) >>= fun _ => release [v, ov] []) := by intro _; rfl) : PG X (.Attribute o f pos) (gAttr X.K to f) := by
  constructor
  intro pins s σ H v u Q I r h
  rw [hs]
  refine wpAny_bind (wpAny_holding (thn (ho.run pins s σ H _ I h) ?_))
  rintro ov s1 ⟨x, H1, I1, rx, a, C, dx, fs, ex, ea, hc, hn, hl, q⟩
  subst ex
  have eo : ov = Value.ref a := rx
  subst eo
  refine wpAny_bind (wpAny_standAt (wpAny_bind (wpAny_holding (setattr_ok I1 ea hc hn hl r ?_))))
  intro s2 I2
  exact wpAny_release ⟨σ, _, I2, q⟩
/-- {t: v}, t a tuple of numbers and texts -/
def tOneT (tk tv : TE) : TE := fun σ H Q => ∀ p, H p = none → tk σ (upd H p (.dT [])) fun x H1 => tv σ H1 fun y H2 => H2 p = some (.dT []) ∧ ∃ (b : Addr) (ks : List Key), x = .ref b ∧ H2 b = some (.tup (ks.map kV)) ∧ Q (.ref p) (upd H2 p (.dT [(ks, y)]))
theorem pe_oneT {k v : Expr} {tk tv : TE} (hu : X.A.units + 1 < cLine) (hk : PE X k tk) (hv : PE X v tv) : PE X (.Dict [some k] [v] pos) (tOneT tk tv) := by
  constructor
  intro pins s σ H Q I h
  have fresh := I.hok.fresh (Nat.le_refl s.heap.objs.size)
  have J := I.laid (a := s.heap.objs.size) (o := .dT []) (h' := s.heap.push { cls := .type "dict", data := .dict #[] }) (t' := s.toks) (fun _ _ q => Heap.get?_push_of_some _ q) (Nat.le_refl _) (dt_empty s.heap I.big)
  have pps : PPs X pos [some k] [v] [(tk, tv)] := pps_cons hk hv pps_nil
  have shape : (evalEachOpt [some k] X.env).zip ((evalEach [v] X.env).map fun v => do let x ← v; standAt pos; pure x) = (pairTrees [some k] [v] X.env pos).map fun p => (some p.1, p.2) := zip_pairTrees _ _ _ _ rfl rfl
  have room : (tupleKind (mixKind X.prog X.w)).room X.A := Nat.lt_of_succ_lt hu
  have len1 : (pairTrees [some k] [v] X.env pos).length = 1 := pairTrees_length _ _ _ _ rfl rfl
  rw [arm_eval_Dict, shape, dictDisplay_pairs _ (fun e => by rw [e] at len1; cases len1) (by rw [len1]; decide)]
  refine wpAny_bind (wpAny_standAt (wpAny_bind (wpAny_subDictH (knd := tupleKind (mixKind X.prog X.w)) room (by rw [len1]; decide) ?_)))
  let R : List (V × V) → Hp → Prop := fun ps H2 => match ps with
    | [(x, y)] => H2 s.heap.objs.size = some (.dT []) ∧ ∃ (b : Addr) (ks : List Key), x = .ref b ∧ H2 b = some (.tup (ks.map kV)) ∧ Q (.ref s.heap.objs.size) (upd H2 s.heap.objs.size (.dT [(ks, y)]))
    | _ => False
  refine thn (pps.run pins _ σ _ R J (h _ fresh)) ?_
  rintro us s2 ⟨ps, H2, I2, rel, q⟩
  match ps, rel, q with
  | [(x, y)], .cons (b := (u, z)) r .nil, ⟨eD, b, ks, ex, eb, q⟩ =>
    obtain ⟨rx, ry⟩ := r
    subst ex
    have eu : u = Value.ref b := rx
    subst eu
    obtain ⟨z0, hd, xs, rel0, dd⟩ := dt_of I2.hok eD
    cases rel0
    refine ⟨[(ks, b, z)], ⟨rfl, rfl, key_of I2.hok eb, trivial⟩, dd, fun h' tk' dd' hs => wpAny_pure ⟨.ref s.heap.objs.size, _, ?_, rfl, q⟩⟩
    obtain ⟨o, es, ep, ho, h2, h3, h4, _, h5⟩ := dd'
    refine d_write I2 (by rw [eD]; exact True.intro) hs ⟨o, ho⟩ ⟨by show 1 ≤ sizeLine; decide, hd, [(ks, b, z)], .cons ⟨rfl, ?_, ry⟩ .nil, o, es, ep, ho, h2, h3, h4, h5⟩
    rw [upd_ne (ne_of eb eD (fun e => nomatch e))]
    exact eb
end
end
end RK
set_option Elab.async false
set_option linter.all false
set_option maxRecDepth 100000
namespace RK
open PySem PySem.Spec PyProof.Rows L2 C8
open SX (S)
section
variable {P : Program} {w : World} {K : PySem.W.Frag} {mg : Str → Option Value} {base : Heap}
/-! walks of dicts whose keys are tuples -/
/-- such a dict, entry by entry -/
theorem entriesT {X : Cx} {H : Hp} {h : Heap} {d : Addr} {kvs : List (List Key × V)} (ok : ObjOk X.prog X.w H h d (.dT kvs)) : (d == sysModules) = false ∧ ∃ (o : Obj) (es : Array DictEntry) (ep : Nat), h.get? d = some o ∧ o.ExactDict ∧ o.data = .dict es ep ∧ es.size = kvs.length ∧
    ∀ (i : Nat) (k : List Key) (v : V), kvs[i]? = some (k, v) → ∃ (en : DictEntry) (q : Addr), es[i]? = some en ∧ en.key = .ref q ∧ H q = some (.tup (k.map kV)) ∧ RelV v en.val := by
  obtain ⟨_, hs, xs, pr, o, es, ep, ho, hx, hdt, he, _⟩ := ok
  refine ⟨hs, o, es, ep, ho, hx, hdt, (size_of_entries he).trans (Paired.length pr).symm, fun i k v e => ?_⟩
  obtain ⟨b, hb, _, e2, e3⟩ := L2.paired_get pr e
  have q := entry_at he i
  rw [hb] at q
  exact ⟨_, b.2.1, q, rfl, e2, e3⟩
section
variable {X : Cx}
/-- d.values() as it stands at p -/
def valuesO (p d : Addr) : HO := .ext fun h => h.IsValuesView p d
def rValuesT : V → List V → Hp → VK → Prop := fun x xs H Q => ∃ (a : Addr) (kvs : List (List Key × V)), x = .ref a ∧ xs = [] ∧ H a = some (.dT kvs) ∧ ∀ p, H p = none → Q (.ref p) (upd H p (valuesO p a))
theorem mt_valuesT : MtR X "dict.values" rValuesT := by
  rintro pins s σ H x xs v us Q I rx rxs ⟨a, kvs, rfl, rfl, ha, q⟩
  cases rx
  cases rxs
  obtain ⟨hd, o, es, ep, ho, hx, hdat, _⟩ := entriesT (I.hok a _ ha)
  have raw : s.heap.DictRaw a es ep := ⟨o, ho, hx, hdat⟩
  refine call_meetsIn F.slot_dict_values raw.typeIs F.entry_dict_values (F.args_dict_values_1 _) (meets_dict_values_raw a hd) ⟨⟨es, ep, raw⟩, ?_⟩
  have new : (s.heap.push { cls := .type "dict_values", data := .fields #[.ref a] }).get? s.heap.objs.size = some { cls := .type "dict_values", data := .fields #[.ref a] } := Heap.get?_push_size _ rfl
  have okV : ObjOk X.prog X.w (upd H s.heap.objs.size (valuesO s.heap.objs.size a)) (s.heap.push { cls := .type "dict_values", data := .fields #[.ref a] }) s.heap.objs.size (valuesO s.heap.objs.size a) :=
    ⟨⟨_, new, rfl, rfl⟩, ⟨_, new⟩, fun _ _ x st => let ⟨o, ho, r⟩ := x; ⟨o, st o ho, r⟩⟩
  exact ⟨.ref _, _, I.laid (t' := s.toks) (fun _ _ e => Heap.get?_push_of_some _ e) (Nat.le_refl _) okV, rfl, q _ (I.hok.fresh (Nat.le_refl _))⟩
theorem cr_sumValuesT (hc : X.calm = true) : CallR X (.builtin "sum") (fun vs H Q => ∃ (p a : Addr) (kvs : List (List Key × V)) (ns : List Int), vs = [.ref p] ∧ H p = some (valuesO p a) ∧ H a = some (.dT kvs) ∧ kvs.map (·.2) = ns.map V.int ∧ Q (.int ns.sum) H) := by
  rintro pins s σ H xs us Q I r ⟨p, a, kvs, ns, rfl, hp, ha, hv, q⟩
  obtain ⟨u, rfl, ru⟩ := vals1 r
  cases ru
  obtain ⟨hd, o, es, ep, ho, hx, hdat, hsz, ent⟩ := entriesT (I.hok a _ ha)
  obtain ⟨view, _, _⟩ := I.hok p _ hp
  have raw : s.heap.DictRaw a es ep := ⟨o, ho, hx, hdat⟩
  obtain ⟨m, fr⟩ := I.fr
  have hln : ns.length = es.size := by
    have := congrArg List.length hv
    rw [List.length_map, List.length_map] at this
    omega
  have src : PySem.W.KdlSrc X.prog X.w "dict_values" p a es.size (fun i v => ∃ hi : i < es.size, v = es[i].val) (fun h => h.IsValuesView p a ∧ h.DictRaw a es ep) := KdlSrc.rawValues
  obtain ⟨oI, St, hit, W, st⟩ := src.iter X.A.in1 s (I.ok.hd hc) ⟨view, raw⟩
  refine call_sum_walkAnyS (hit _ _ ⟨s.heap.objs.size, _, _, _, _, _, _, fun i => ns.getD i 0, rfl, W.toS, st, fun b hb => ?_, fun i v hiv => ?_, fun s' t' hm => ?_⟩)
  · show b < (s.heap.push oI).objs.size
    rw [Heap.size_push]
    rcases List.mem_cons.mp hb with e | hb
    · rw [e]; exact Nat.lt_succ_self _
    · rw [List.mem_singleton.mp hb]; exact Nat.lt_succ_of_lt (Heap.lt_size ho)
  · obtain ⟨hi, e⟩ := hiv
    subst e
    obtain ⟨⟨k, v⟩, hkv⟩ := at_of_lt (show i < kvs.length by omega)
    obtain ⟨en, b, he, _, _, rv⟩ := ent i k v hkv
    have e2 : (kvs.map (·.2))[i]? = some v := by rw [List.getElem?_map, hkv]; rfl
    rw [hv] at e2
    obtain ⟨n, hn, rfl⟩ := map_at e2
    obtain ⟨t, et⟩ := rv
    refine ⟨t, ?_⟩
    have e3 : es[i] = en := by
      rw [Array.getElem?_eq_getElem hi] at he
      exact Option.some.inj he
    rw [e3, et]
    show Value.int n t = Value.int (ns.getD i 0) t
    rw [List.getD_eq_getElem?_getD, hn]
    rfl
  · have keeps : ∀ b o, s.heap.get? b = some o → s'.heap.get? b = some o := fun b o e => hm.heap b o (fun z => by
      rw [List.mem_singleton.mp z] at e
      exact absurd (Heap.lt_size e) (Nat.lt_irrefl _)) (Heap.get?_push_of_some _ e)
    rw [Moved.eq_with hm]
    refine ⟨.int ns.sum, H, I.kept (t' := s'.toks) keeps, ?_, q⟩
    have tot : preSum (fun i => ns.getD i 0) es.size = ns.sum := by
      rw [preSum_getD, List.take_of_length_le (by omega)]
    exact ⟨t', by rw [← tot]⟩
/-- the pairs of a locked dict, each a new tuple of the key's own tuple and the value -/
def ItiT (d : Addr) (o : Obj) (kvs : List (List Key × V)) : It where
  go := fun i H => i < kvs.length ∧ H d = some (.frz o (.dT kvs))
  yld := fun i H x H' => ∃ (T q : Addr) (k : List Key) (v : V), kvs[i]? = some (k, v) ∧ H q = some (.tup (k.map kV)) ∧ x = .ref T ∧ H T = none ∧ H' = upd H T (.tup [.ref q, v])
  stop := fun i H => kvs.length ≤ i ∧ H d = some (.frz o (.dT kvs))
theorem turn_itemsT {P : Program} {w : World} {K : PySem.W.Frag} {kvs : List (List Key × V)} {elts : List Expr} {kk : Nat} {tpos : Pos} {d : Addr} {o : Obj} {es : Array DictEntry} {ep : Nat} (it : Addr) (hod : o.data = .dict es ep) :
    Turn P w K (.Tuple elts kk tpos) (ItiT d o kvs) [it] it (fun i h => ∃ y z, IsItemIter h it d i kvs.length ep y z) where
  mem := List.mem_singleton.mpr rfl
  obj := by
    rintro i h ⟨y, z, e⟩ b hb
    rw [List.mem_singleton.mp hb]
    exact ⟨_, e, fun v q => nomatch q⟩
  keep := by
    rintro i h h' ⟨y, z, e⟩ k
    exact ⟨y, z, k it (List.mem_singleton.mpr rfl) _ e⟩
  item := by
    rintro X rfl rfl rfl hc i pins s σ H E I hf ⟨y, z, he⟩ ⟨hi, hd⟩
    obtain ⟨g0, okT⟩ := I.hok d _ hd
    obtain ⟨_, o2, es2, ep2, ho, hx, hdat, hsz, ent⟩ := entriesT okT
    rw [g0] at ho
    cases ho
    rw [hod] at hdat
    cases hdat
    obtain ⟨⟨k, v⟩, hkv⟩ := at_of_lt hi
    obtain ⟨en, q, hen, hkey, hq, rv⟩ := ent i k v hkv
    have hi2 : i < es.size := by omega
    have een : es[i] = en := by
      rw [Array.getElem?_eq_getElem hi2] at hen
      exact Option.some.inj hen
    rw [← hsz] at he
    have below : it < s.heap.objs.size := Heap.lt_size he
    refine wpAny_pyNext_items_item_raw he ⟨o, g0, hx, hod⟩ hi2 fun h1 out tup _ old => ⟨_, rfl, wpAny_letOwnedTupleGo_items (s := { s with heap := h1 }) out fun h2 he2 sb => ?_⟩
    rw [een] at tup he2
    have tup2 := (sb.2 _ (Nat.ne_of_gt below)).trans tup
    have new : ObjOk X.prog X.w (upd H s.heap.objs.size (.tup [.ref q, v])) h2 s.heap.objs.size (.tup [.ref q, v]) :=
      ⟨by show 2 ≤ sizeLine; decide, [en.key, en.val], .cons hkey (.cons rv .nil), _, tup2, rfl, _, rfl⟩
    have J := I.turnedNew (t' := s.toks) (ch := [it]) (h' := h2) (fun b ob hb e => (sb.2 b (fun z => hb (List.mem_singleton.mpr z))).trans (old b ob (fun z => hb (List.mem_singleton.mpr z)) e)) hf (Nat.le_refl _) new
    refine ⟨.ref s.heap.objs.size, _, J, rfl, ⟨_, q, k, v, hkv, hq, rfl, I.hok.fresh (Nat.le_refl _), rfl⟩, ⟨en.key, en.val, by rw [← hsz]; exact he2⟩, fun b hb => ?_⟩
    rw [List.mem_singleton.mp hb, upd_ne (Nat.ne_of_lt below)]
    exact (hf it (List.mem_singleton.mpr rfl)).1
  done := by
    rintro X rfl rfl rfl hc i pins s σ H E I hf ⟨y, z, he⟩ ⟨hi, hd⟩
    obtain ⟨g0, okT⟩ := I.hok d _ hd
    obtain ⟨_, o2, es2, ep2, ho, hx, hdat, hsz, ent⟩ := entriesT okT
    rw [g0] at ho
    cases ho
    rw [hod] at hdat
    cases hdat
    obtain ⟨p0, p1, p2, p3, p4, p5⟩ := hf it (List.mem_singleton.mpr rfl)
    rw [← hsz] at he
    exact wpAny_pyNext_items_end_raw (I.ok.hd hc) he ⟨o, g0, hx, hod⟩ (by omega) fun h' old => ⟨rfl, I.turned (t' := s.toks) (fun b ob hb e => old b ob hb e) p0 p1 p3 p4 p5⟩
  self := by
    rintro A i s Q E ⟨y, z, e⟩ h
    exact PySem.W.kcp_self e h
def iItemsT (td : TE) : TI := fun σ H R => td σ H fun x H1 => ∃ (d : Addr) (o : Obj) (kvs : List (List Key × V)), x = .ref d ∧ H1 d = some (.frz o (.dT kvs)) ∧ R (ItiT d o kvs) H1
theorem pi_itemsT {e : Expr} {td : TE} {apos cpos tpos : Pos} {elts : List Expr} {kk : Nat} (he : PE X e td) (hb : attributeBase e "items" X.env (eval e X.env) = eval e X.env := by rfl) (hl : (apos.endLine == cpos.line) = true := by rfl) :
    PI X (.Tuple elts kk tpos) (.Call (.Attribute e "items" apos) [] [] cpos) (iItemsT td) := by
  constructor
  intro pins s σ H R I h
  refine wpAny_Call_method (T := "dict") (id := "dict.items") hb rfl hl F.plainAttrs_dict F.slot_dict_items F.type_dict_items (thn (he.run pins s σ H _ I h) ?_)
  rintro u s1 ⟨x, H1, I1, rx, d, o, kvs, ex, hd, q⟩
  subst ex
  have eu : u = Value.ref d := rx
  subst eu
  obtain ⟨g0, okT⟩ := I1.hok d _ hd
  obtain ⟨hs, o2, es, ep, ho, hx, hdat, hsz, _⟩ := entriesT okT
  rw [g0] at ho
  cases ho
  have raw : s1.heap.DictRaw d es ep := ⟨o, g0, hx, hdat⟩
  have dcls : ∀ b, Value.ref d = .ref b → ∃ ob, s1.heap.get? b = some ob ∧ ob.dict = none := fun b e => by
    cases e
    exact ⟨o, g0, hx.2.1⟩
  refine ⟨raw.typeIs, dcls, ?_⟩
  have I2 : Inv X pins σ H1 { s1 with heap := s1.heap.push { cls := .type "dict_items", data := .fields #[.ref d] } } := I1.kept (t' := s1.toks) fun b ob q => Heap.get?_push_of_some _ q
  have raw2 : (s1.heap.push { cls := .type "dict_items", data := .fields #[.ref d] }).DictRaw d es ep := raw.at fun o e => Heap.get?_push_of_some _ e
  have fin : wpAny (model X.prog X.w) X.A (pyIter (.ref s1.heap.objs.size)) (PIE X pins σ (.Tuple elts kk tpos) R) X.xe { s1 with heap := s1.heap.push { cls := .type "dict_items", data := .fields #[.ref d] } } := by
    refine wpAny_pyIter_items_raw (d := d) ⟨_, Heap.get?_push_size _ rfl, rfl, rfl⟩ raw2 (pi_one (tk := s1.toks) I2 _ (turn_itemsT _ hdat) ⟨.none, .none, ?_⟩ q)
    rw [← hsz]
    exact Heap.get?_push_size _ rfl
  show wpAny _ _ (callWith cpos (.builtin "dict.items") [.ref d] [] []) _ X.xe s1
  exact method_meetsIn F.slot_dict_items F.entry_dict_items rfl (PySem.evalArgs_none ⟨rfl, raw.typeIs, F.args_dict_items_1 _, _, meets_dict_items_raw d hs, ⟨es, ep, raw⟩, fin⟩)
theorem walk_itemsT {d : Addr} {o : Obj} {kvs : List (List Key × V)} : Walk (ItiT d o kvs) kvs.length (fun H => H d = some (.frz o (.dT kvs)))
    (fun i H x H' => ∃ (T q : Addr) (k : List Key) (v : V), kvs[i]? = some (k, v) ∧ H q = some (.tup (k.map kV)) ∧ x = .ref T ∧ H T = none ∧ H' = upd H T (.tup [.ref q, v])) :=
  ⟨fun _ _ hi q => ⟨hi, q⟩, fun _ q => ⟨Nat.le_refl _, q⟩, fun _ _ _ _ _ _ y => y⟩
end
end
end RK
set_option Elab.async false
set_option linter.all false
set_option maxRecDepth 100000
namespace RK
open PySem PySem.Spec PyProof.Rows L2 C8
open SX (S)
section
variable {P : Program} {w : World} {K : PySem.W.Frag} {mg : Str → Option Value} {base : Heap}
/-! defs that are called where no repr is under way -/
def FnG (P : Program) (w : World) (K : PySem.W.Frag) (mg : Str → Option Value) (base : Heap) (k : Nat) (f : Addr) (fd : FuncData) (ps : List Str) (sp : Sp) : Prop :=
  (∀ vs H Q E, sp vs H Q E → vs.length = ps.length) ∧
  ∀ (A : Around) (outer : List Env) (s : Shared) (H : Hp) (args : Args) (us : List Value) (vs : List V) (Q : VK) (E : XK), A.guards = some [] →
    Room k A → Env0 P w K mg base A outer s H →
    BindsTo s fd args (ps.zip us) → Vals vs us →
    sp vs H Q E → codeAny (model P w) A (.call (.ref f) args)
      (CR C8.CX0 outer P w H s Q E) s
structure CalG (P : Program) (w : World) (K : PySem.W.Frag) (mg : Str → Option Value) (base : Heap) (k : Nat) (x : Str) (sp : Sp) : Prop where
  ex : ∃ (f : Addr) (fd : FuncData) (ps : List Str), FnG P w K mg base k f fd ps sp ∧ mg x = some (.ref f) ∧ PySem.W.keepIn K (.ref f) = true ∧ Binds K fd ps []
theorem fnG {x : Str} {st : Stmt} {f : Addr} {fd : FuncData} {N ps : List Str} {k : Nat} {sp : Sp} (F : C8.Fun K x x st f fd) (S : FnScope N ps (fnScope st)) (len : ∀ vs H Q E, sp vs H Q E → vs.length = ps.length)
    (body : ∀ (cdv : Value) (A : Around) (outer : List Env) (s : Shared) (H : Hp) (vs : List V) (Q : VK) (E : XK), A.guards = some [] → Room k (A.deeper (envOfC x (fnScope st) s.heap.objs.size f cdv)) → sp vs H Q E →
      ∃ t, PSs (cxOf C8.CX0 P w K mg base N x (fnScope st) f cdv A outer s H E).nox (fnBody st) t ∧ t { nx := fun _ H' => Q .non H', rt := Q } (start N vs) H) : FnG P w K mg base (k + 1) f fd ps sp := by
  obtain ⟨oc, od, dV, kV, doc, pm, an, cdv, ct, osl, efd, lk, hcd⟩ := F.ex
  subst efd
  refine ⟨len, ?_⟩
  intro A outer s H args us vs Q E hg hr e0 hb r hsp
  have inH : ∀ b o, base.get? b = some o → s.heap.get? b = some o := fun b o e => (e0.bs b o e).1
  have KX := e0.mod.kin.keeps inH
  have places : ∀ y ∈ ps.zip us, (fnScope st).names.lookup y.1 = some .local ∨ ((fnScope st).names.lookup y.1 = some .cell ∧ ((cellsFrom (s.heap.objs.size + 1) (fnScope st).names []).lookup y.1).isSome = true) := by
    rintro ⟨n, v⟩ hy
    cases S.par n (List.of_mem_zip hy).1 with
    | inl q => exact .inl q
    | inr q => exact .inr ⟨q, PySem.W.cellsFrom_some _ _ _ (.inl q)⟩
  refine codeAny_call_function hr.depth (KX _ _ lk) rfl S.co S.gen rfl (PySem.W.codeRec_of KX hcd) (hb _ _ _ _ (wpAny_newFunctionEnv_cells S.kind places ?_))
  rintro env rfl s1 ic
  obtain ⟨t, ht, hq⟩ := body cdv A outer s H vs Q E hg (hr.deeper _) hsp
  have J := inv_start (CX := C8.CX0) (E := E) S hr.hd e0 (len _ _ _ _ hsp) r ic
  refine ⟨(e0.mod.nolimit.keeps inH).keeps ic.toInCall.keep, codeAny_func (wpAny_mono (ht.nox.run [] s1 _ H _ J hq) ?_ fun _ _ z => z)⟩
  intro fl s' hs
  cases fl with
  | ret u => exact let ⟨v, _, H', J', rv, q⟩ := hs; ⟨v, H', J'.os, J'.bare, J'.base, J'.hok, rv, q⟩
  | next => exact let ⟨_, H', J', q⟩ := hs; ⟨V.non, H', J'.os, J'.bare, J'.base, J'.hok, rfl, q⟩
  | brk => exact (let ⟨_, _, _, q⟩ := hs; q : False).elim
  | cont => exact (let ⟨_, _, _, q⟩ := hs; q : False).elim
section
variable {X : Cx}
theorem pe_g {k : Nat} {x : Str} {sp : Sp} {p pos : Pos} {e : Expr} {es : List Expr} {t : TA} (c : CalG X.prog X.w X.K X.mg X.base k x sp) (hgd : X.A.guards = some []) (hr : Room k X.A) (hg : Gl X x) (ha : PA X (e :: es) t)
    (hdb : (x == ("__debug__" : Str)) = false := by decide) (he : starEach (e :: es) X.env = (false, eval e X.env) :: starEach es X.env := by rfl) (hpl : (backTo pos (starEach es X.env)).any (·.1) = false := by rfl) :
    PE X (.Call (.Name x p) (e :: es) [] pos) (fun σ H Q => t σ H fun vs H1 => sp vs H1 Q C8.E0) := by
  obtain ⟨f, fd, ps, ⟨len, run⟩, hm, hk, hb⟩ := c.ex
  constructor
  intro pins s σ H Q I h
  refine wpAny_Call_Name_kw (ld_glob I hg hm ?_ hdb)
  refine PySem.W.callWith_K (h₀ := X.base) I.ok.mod.kin hk (thn (ha.run pos pins s σ H _ I h) ?_) he hpl
  rintro us s1 ⟨vs, H1, I1, r, q⟩
  have el : (us ++ []).length = ps.length := by
    rw [List.append_nil, ← r.length]
    exact len _ _ _ _ q
  have bt := hb s1 us I1.kIn el
  rw [List.append_nil] at bt
  refine ⟨I1.kIn, wpAny_call (codeAny_mono (run X.A X.stack s1 H1 ⟨us, []⟩ us vs Q C8.E0 hgd hr I1.env0 bt r q) ?_)⟩
  intro res s' hq
  match res, hq with
  | .ok (.ret u), hq => exact I1.after hq
  | .ok .next, hq => exact False.elim hq
  | .ok .brk, hq => exact False.elim hq
  | .ok .cont, hq => exact False.elim hq
  | .error e, hq => exact False.elim hq
/-- repr of data at any depth, where no repr is under way -/
theorem call_reprD {k : Nat} (hgd : X.A.guards = some []) (hr : Room k X.A) : CallR X (.builtin "repr") (fun vs H Q => ∃ (a : Addr) (d : PyData), vs = [.ref a] ∧ Dp X.K H (.ref a) d ∧ d.showable = true ∧ d.hasDict = false ∧ d.depth ≤ 50 ∧ d.shown.length ≤ sizeLine ∧ Q (.str d.shown) H) := by
  rintro pins s σ H xs us Q I r ⟨a, d, rfl, hd, h1, h2, h3, h4, q⟩
  obtain ⟨u, rfl, ru⟩ := vals1 r
  obtain ⟨as, rd⟩ := Dp.reads I d _ _ hd ru
  have eu : u = Value.ref a := ru
  subst eu
  have hu := hr.un
  exact repr_of_reads' rd h1 (fun z => by rw [h2] at z; cases z) hgd (by omega) (fun _ _ e => e) (fun h' u tk keeps => ⟨.str d.shown, H, I.kept keeps, ⟨u, rfl⟩, q⟩) h4
end
end
end RK
set_option Elab.async false
set_option linter.all false
set_option maxRecDepth 100000
namespace RK
open PySem PySem.Spec PyProof.Rows L2 C8
open SX (S)
section
variable {P : Program} {w : World} {K : PySem.W.Frag} {mg : Str → Option Value} {base : Heap}
/-! the end of the row, for a law that is called where no repr is under way -/
theorem law_go {mb : Str → Option Value} {k : Nat} {fa a : Addr} {fd : FuncData} {x : Str} {sp : Sp} {s₁ : Shared} {vs : List Value} {ns : List Int}
    (KX : K.In s₁.heap) (hns : s₁.heap.Ns mainGlobals mg) (hb : s₁.heap.Ns builtinsNs mb) (hbb : ∀ x : Str, x ≠ "__name__" → mb x = bootBuiltins x) (hlim : s₁.heap.NoLimit) (hg : s₁.gens = #[])
    (ha : s₁.heap.get? a = some { cls := .type "list", data := .seq vs.toArray }) (hi : IntsAre vs ns) (hl : ns.length ≤ sizeLine) (hr : Room k callerA)
    (F : ∀ base : Heap, K.In base → base.Ns mainGlobals mg → FnG P w K mg base k fa fd [x] sp) (hbind : ∀ (s : Shared) (u : Value), BindsTo s fd ⟨[u], []⟩ [(x, u)])
    (hsp : ∀ H : Hp, SqL K H a (ns.map V.int) → sp [.ref a] H (fun v _ => v = .bl true) C8.E0) :
    codeAny (model P w) callerA (.call (.ref fa) ⟨[.ref a], []⟩) (fun r s' => r = .ok (.ret (.bool true)) ∧ OldK s₁.heap s'.heap ∧ s'.os = s₁.os ∧ AllBare s'.gens) s₁ := by
  have rv := vals_ints hi
  have lv := hi.length
  have no : ∀ u : HO, (none : Option HO) = some u → False := fun _ z => by cases z
  obtain ⟨H, only, hS, okH, atA, kA⟩ : ∃ H : Hp, (∀ b, H b = none ∨ ∃ o xs, H b = some (.frz o (.lst xs))) ∧ SqL K H a (ns.map V.int) ∧ HOk P w H s₁.heap ∧ (∀ b u, H b = some u → b = a) ∧ ∀ u, H a = some u → K.lookup a = none := by
    cases hk : K.lookup a with
    | some o =>
      have e := KX a o hk
      rw [ha] at e
      cases e
      exact ⟨fun _ => none, fun _ => .inl rfl, .inr ⟨_, vs.toArray, _, hk, rfl, rfl, rfl, by rw [List.size_toArray, lv]; exact hl, rv⟩, fun _ u z => (no u z).elim, fun _ u z => (no u z).elim, fun u z => (no u z).elim⟩
    | none =>
      refine ⟨fun b => if b = a then some (.frz { cls := .type "list", data := .seq vs.toArray } (.lst (ns.map V.int))) else none, fun b => ?_, .inl (.inr ⟨_, if_pos rfl⟩), fun b u z => ?_, fun b u z => ?_, fun _ _ => rfl⟩
      · by_cases e : b = a
        · exact .inr ⟨_, _, if_pos e⟩
        · exact .inl (if_neg e)
      · by_cases e : b = a
        · subst e
          cases (if_pos rfl).symm.trans z
          exact ⟨ha, by rw [List.length_map]; exact hl, vs, _, rv, ha⟩
        · cases (if_neg e).symm.trans z
      · by_cases e : b = a
        · exact e
        · cases (if_neg e).symm.trans z
  have down : ∀ {b : Addr} {o : Obj}, s₁.heap.get? b = some o → H b = none → (hidT s₁.heap H).get? b = some o := fun e n => hidT_get e n
  have ns2 : ∀ {b : Addr} {m : Str → Option Value}, s₁.heap.Ns b m → (hidT s₁.heap H).Ns b m := by
    rintro b m ⟨o, es, ep, e, d, r⟩
    refine ⟨o, es, ep, down e ?_, d, r⟩
    cases q : H b with
    | none => rfl
    | some u =>
      have eb := atA b u q
      subst eb
      rw [ha] at e
      cases e
      cases d
  have K2 : K.In (hidT s₁.heap H) := by
    intro b o e
    refine down (KX b o e) ?_
    cases q : H b with
    | none => rfl
    | some u =>
      have eb := atA b u q
      subst eb
      rw [kA u q] at e
      cases e
  obtain ⟨mc, l1, l2⟩ := hlim
  have M : L2.Mod K mg (hidT s₁.heap H) := ⟨K2, ns2 hns, ⟨mb, ns2 hb, hbb⟩, mc, ns2 l1, l2⟩
  have noFr : ∀ b : Addr, b ∉ frs [] := fun b z => absurd (show b ∈ ([] : List Addr) from z) List.not_mem_nil
  have env0 : Env0 P w K mg (hidT s₁.heap H) callerA [] s₁ H := ⟨rfl, M, fun _ _ e => of_hidT e, Nat.le_of_eq (hidT_size _ _), trivial, fun b z => absurd z (noFr b), okH, .of_eq hg⟩
  refine codeAny_mono ((F _ K2 (ns2 hns)).2 callerA [] s₁ H ⟨[.ref a], []⟩ [.ref a] [.ref a] _ C8.E0 rfl hr env0 (hbind s₁ (.ref a)) (.cons rfl .nil) (hsp H hS)) ?_
  intro res s' h
  match res, h with
  | .error e, h => exact False.elim h
  | .ok .next, h => exact False.elim h
  | .ok .brk, h => exact False.elim h
  | .ok .cont, h => exact False.elim h
  | .ok (.ret u), ⟨v, H', os, bare, un, ok', ru, q⟩ =>
    have ev : v = V.bl true := q
    subst ev
    have eu : u = Value.bool true := ru
    subst eu
    refine ⟨rfl, OldK.of_keep ?_, os, bare⟩
    intro b o e
    rcases only b with z | ⟨ob, xs, z⟩
    · exact un.keep b o e z (noFr b) List.not_mem_nil
    · have e1 := (okH b _ z).1
      rw [e] at e1
      cases e1
      exact (ok' b _ (un.frzs b _ _ z)).1
theorem walk_go {l : PySem.W.OpenLaw} {n k : Nat} {q : Program} {loose : List Str} {XP : (Str → Option Value) → Heap → Prop} {YP : World → Heap → Prop} {d : DefRec} {KK : Params → PySem.W.Frag} {sp : PySem.W.Frag → Sp} {x : Str}
    (hn : l.most = some n) (hn2 : n ≤ sizeLine) (hdf : d.params.defaults = []) (hr : Room k callerA)
    (hY : ∀ (w : World) (h : Heap), YP w h → (KK w.params).In h)
    (F : ∀ (w : World) (mg : Str → Option Value) (fa : Addr) (h : Heap), (KK w.params).In h → h.Ns mainGlobals mg → mg d.name = some (.ref fa) →
      ∃ fd : FuncData, (∀ (s : Shared) (u : Value), BindsTo s fd ⟨[u], []⟩ [(x, u)]) ∧
        ∀ base : Heap, (KK w.params).In base → base.Ns mainGlobals mg → FnG l.prog w (KK w.params) mg base k fa fd [x] (sp (KK w.params)))
    (hsp : ∀ (K : PySem.W.Frag) (H : Hp) (a : Addr) (ns : List Int), ns.length ≤ n → (∀ z ∈ ns, Builtin.Int.intBits z ≤ 1048576) → SqL K H a (ns.map V.int) → sp K [.ref a] H (fun v _ => v = .bl true) C8.E0) :
    PySem.W.WalkO q loose XP YP l.row.toRowW d [] (fun f vs => PySem.call f vs) := by
  refine Att.attach_callB hn hdf ?_
  intro w s₀ s₁ mg mb fa o pm cd doc a vs ns G Y ho hd hcd hmg hobj hints hlen hbits hg
  have KX := hY w _ Y
  obtain ⟨fd, hb, hF⟩ := F w mg fa _ KX G.T.g hmg
  exact law_go KX G.T.g G.T.b G.T.builtins G.T.nolimit hg hobj hints (Nat.le_trans hlen hn2) hr hF hb fun H hS => hsp _ H a ns hlen hbits hS
end
end RK
set_option Elab.async false
set_option linter.all false
set_option maxRecDepth 100000
namespace RK
open PySem PySem.Spec PyProof.Rows L2 C8
open SX (S)
section
variable {P : Program} {w : World} {K : PySem.W.Frag} {mg : Str → Option Value} {base : Heap}
/-! book_in -/
abbrev nBookIn : List Str := ["text", "head", "tail", "names", "rows", "row"]
theorem scBookIn : FnScope nBookIn (nBookIn.take 1) (fnScope (top 16)) := fnScope_by (by decide +kernel)
def spBookIn : Sp := fun vs H Q _ => ∃ (ws : List (List Nat)) (rows : List Row), vs = [strV (said ws rows)] ∧ GoodB ws rows ∧
  ∀ (H' : Hp) (q a b : Addr), Same H H' → H' q = some (.tup [.ref a, .ref b]) → H' a = some (.tup (ws.map strV)) → H' b = some (.tup (rows.map rowV)) → Q (.ref q) H'
theorem is_new {H H1 H2 : Hp} {p : Addr} (s : Same H H1) (h : H1 p = none) : H p = none := s.free h
theorem eq_S (a b : List Nat) : decide (strV a = strV b) = decide (a = b) := by
  rw [Bool.eq_iff_iff, decide_eq_true_iff, decide_eq_true_iff]
  constructor
  · intro h
    injection h with h
    exact SX.S_inj h
  · rintro rfl; rfl
theorem not_and_false {b : Bool} : (!decide (b = false)) = b := by cases b <;> rfl
theorem cut_tail (x : List Nat) : Txt.slice (S x) (some 1) none = S (x.drop 1) := SX.slice_from (by decide)
theorem len_S_le {x : List Nat} {n : Nat} (h : x.length ≤ n) (hn : n ≤ 1000) : (S x).length + 2 ≤ sizeLine := by
  rw [SX.S_len, sizeLine_eq]
  omega
theorem len_S_le' {x : List Nat} {n : Nat} (h : x.length ≤ n) (hn : n ≤ 1000) : (S x).length ≤ sizeLine := by
  rw [SX.S_len, sizeLine_eq]
  omega
def rLenSeq (K : PySem.W.Frag) : List V → Hp → VK → Prop := fun xs H Q => ∃ p ys, xs = [.ref p] ∧ (SqL K H p ys ∨ SqT K H p ys) ∧ Q (.int ys.length) H
theorem ok_bookIn {f : Addr} {fd : FuncData} (F : Def K mg "book_in" (top 16) f fd) (b : Binds K fd (nBookIn.take 1) []) (cNames : Cal P w K mg base 2 "are_names" (spNames K) []) (cRow : Cal P w K mg base 1 "is_row" spIsRow [])
    (mIs : mg "isinstance" = none) (mStr : mg "str" = none) (mL : mg "len" = none) (mAll : mg "all" = none) (mT : mg "tuple" = none) (mM : ∃ u, mg "MOST_ROWS" = some u ∧ RelV (.int 20) u) :
    Cal P w K mg base 3 "book_in" spBookIn [] := by
  refine cal0 F b .nil scBookIn (fun vs H Q E h => ?_) (fun cdv A outer s H vs Q E hr h => ?_)
  · obtain ⟨ws, rows, rfl, _⟩ := h
    rfl
  · obtain ⟨ws, rows, rfl, g, k⟩ := h
    refine ⟨_, pss_cons (ps_if (PW.pt (pw_or (pt_not (pt_val (pe_callB call_isi (by rfl) mIs (by decide +kernel) (pa_cons (pv 0) (pa_cons (pe_bltn (v := .ty "str") (by rfl) mStr (by decide +kernel) rfl) pa_nil)))))
          (pw_or1 (pt_cmpR op_ne (pe_m1 PySem.F.slot_str_count PySem.F.type_str_count mt_count (pv 0) pe_str) pe_int (nomark _))))) (pss_one (ps_ret pe_non)) pss_nil)
      (pss_cons (ps_asg (pe_split (pv 0) pe_str) (pg_unl (by rfl) (pgs_cons (pg_name (i := 1) scBookIn.nd rfl (Or.inl rfl)) (pgs_cons (pg_name (i := 2) scBookIn.nd rfl (Or.inl rfl)) pgs_nil))))
      (pss_cons (ps_set (i := 3) scBookIn.nd rfl (Or.inr rfl) (pe_split (pv 1) pe_str))
      (pss_cut (ps_if (PW.pt (pw_or (pt_not (pt_val (pe_c cNames hr (by decide) (by rfl) (pa_cons (pv 3) pa_nil))))
          (pw_or1 (PW.pt (pw_and (pt_cmpR op_ne (pv 2) pe_str (nomark _)) (pw_and1 (pt_cmpR op_ne (pe_ix ix_str (pv 2) pe_int (fun _ _ => rfl)) pe_str (nomark _)))))))) (pss_one (ps_ret pe_non)) pss_nil)
      (pss_cut (ps_set (i := 4) scBookIn.nd rfl (Or.inl rfl) (pe_ifExp (pt_cmpR op_ne (pv 2) pe_str (nomark _)) (pe_split (pe_slice sl_txt (pv 2) (po_some pe_int) po_none) pe_str) (pe_lst pa_nil)))
      (pss_cons (ps_if (PW.pt (pw_or (pt_cmpR op_gt (pe_callB call_len_seq (by rfl) mL PySem.boot_len (pa_cons (pv 4) pa_nil)) (pe_gc (by rfl) mM) (nomark _))
          (pw_or1 (pt_not (pt_val (pe_callB (cr_all rfl) (by rfl) mAll (by decide +kernel) (pa_cons (pe_lc (own := [("row", 5)]) (g := gName 5) (tt := tYes) (by rfl) scBookIn.nd (pi_list (pv 4))
            (blkOk_by (own := [("row", 5)]) (N := nBookIn) (sc := fnScope (top 16)) (by decide +kernel)) (fun _ _ _ _ _ => pg_name (i := 5) scBookIn.nd rfl (Or.inl rfl)) (fun _ _ _ _ _ => pts_nil)
            (fun _ _ _ _ _ => pe_c cRow hr (by decide) (by rfl) (pa_cons (pv 5) (pa_cons (pe_callB (r := rLenSeq K) call_len_seq (by rfl) mL PySem.boot_len (pa_cons (pv 3) pa_nil)) pa_nil)))) pa_nil))))))) (pss_one (ps_ret pe_non)) pss_nil)
      (pss_one (ps_ret (pe_tup (pa_cons (pe_tupleOf (by rfl) mT (pv 3)) (pa_cons (pe_tupleOf (by rfl) mT (pv 4)) pa_nil)))))))))), ?_⟩
    obtain ⟨z1, z2, z3, z4⟩ := said_len g
    refine ⟨_, rfl, _, .ty "str", _, _, true, rfl, .ty "str", .base (.str _), kit_ty (by decide +kernel), true, rfl, iteF ⟨_, rfl, ⟨_, rfl⟩, _, S [58], rfl, rfl, rfl, _, rfl, ?_⟩⟩
    rw [said_count g]
    refine iteF ⟨_, rfl, ⟨_, rfl⟩, _, S [58], rfl, rfl, rfl, len_S_le z4 (by decide), fun p hp => ?_⟩
    rw [said_split g]
    refine ⟨p, _, rfl, SqL.of upd_same, rfl, _, _, rfl, _, _, rfl, rfl, ?_⟩
    have s1 := same_new (o := .lst ([S (TL.joinL [32] ws), S (tailOf rows)].map V.str)) hp
    refine ⟨_, rfl, ⟨_, rfl⟩, _, S [32], rfl, rfl, rfl, len_S_le z1 (by decide), fun n hn => ?_⟩
    rw [head_split g]
    have s2 := s1.trans (same_new (o := .lst ((ws.map S).map V.str)) hn)
    have hN : SqL K (upd (upd H p (.lst ([S (TL.joinL [32] ws), S (tailOf rows)].map V.str))) n (.lst ((ws.map S).map V.str))) n (ws.map strV) := SqL.of (by rw [upd_same, List.map_map]; rfl)
    refine ⟨fun σ H2 => σ = [some (strV (said ws rows)), some (strV (TL.joinL [32] ws)), some (strV (tailOf rows)), some (.ref n), none, none] ∧ Same H H2 ∧ SqL K H2 n (ws.map strV), ?_, ?_⟩
    · refine ⟨_, rfl, n, ws, rfl, hN, g.h1, by have := g.h2; omega, g.pw, g.low, fun H2 s3 => ⟨true, rfl, iteF ?_⟩⟩
      have hN2 := Same.seq s3 hN
      refine ⟨_, rfl, rfl, _, rfl, ?_⟩
      by_cases hne : rows = []
      · subst hne
        exact ⟨rfl, s2.trans s3, hN2⟩
      · have e1 : (!decide (strV (tailOf rows) = V.str "")) = true := by
          rw [show V.str "" = strV [] from rfl, eq_S, tail_cons hne]
          rfl
        rw [e1]
        refine iteT ⟨_, rfl, _, _, 32, rfl, rfl, len_S_le' z2 (by decide), ?_, rfl, _, rfl, ?_⟩
        · rw [tail_cons hne]
          exact atI_nat (j := 0) rfl
        · exact ⟨rfl, s2.trans s3, hN2⟩
    · rintro σ H2 ⟨rfl, s3, hN2⟩
      refine ⟨fun σ H3 => ∃ R : Addr, σ = [some (strV (said ws rows)), some (strV (TL.joinL [32] ws)), some (strV (tailOf rows)), some (.ref n), some (.ref R), none] ∧ Same H H3 ∧ SqL K H3 n (ws.map strV) ∧ H3 R = some (.lst (rows.map rowV)), ?_, ?_⟩
      · refine ⟨_, rfl, rfl, _, rfl, ?_⟩
        by_cases hne : rows = []
        · subst hne
          exact ⟨Nat.zero_le _, fun R hR => ⟨R, rfl, s3.trans (same_new hR), Same.seq (same_new hR) hN2, upd_same⟩⟩
        · have e1 : (!decide (strV (tailOf rows) = V.str "")) = true := by
            rw [show V.str "" = strV [] from rfl, eq_S, tail_cons hne]
            rfl
          rw [e1]
          refine iteT ⟨_, rfl, 1, rfl, _, rfl, len_S_le' z2 (by decide), ?_⟩
          rw [cut_tail, tail_cons hne]
          refine ⟨⟨_, rfl⟩, _, S [32], rfl, rfl, rfl, len_S_le z3 (by decide), fun R hR => ?_⟩
          show ∃ R2 : Addr, _
          rw [show List.drop 1 (32 :: TL.joinL [32] rows) = TL.joinL [32] rows from rfl, rows_split g hne]
          exact ⟨R, rfl, s3.trans (same_new hR), Same.seq (same_new hR) hN2, by rw [upd_same, List.map_map]; rfl⟩
      · rintro σ H3 ⟨R, rfl, s4, hN3, eR⟩
        refine ⟨_, rfl, R, _, rfl, .inl (SqL.of eR), _, _, rfl, rfl, _, rfl, ?_⟩
        rw [List.length_map, decide_eq_false (show ¬ (20 : Int) < (rows.length : Int) by have := g.hr; omega)]
        refine iteF ⟨_, rfl, R, rfl, ⟨_, SqL.of eR⟩, fun D hD => ?_⟩
        refine lc_list (K := K) (a := R) (xs := rows.map rowV) (fun i H' => Acc D H3 (List.replicate i (V.bl true)) H') (acc_start hD) (fun i H' _ hA => Same.seq hA.sm (SqL.of eR)) ?_ ?_
        · rintro i x H' hi hA
          obtain ⟨r, hr1, rfl⟩ := map_at hi
          have ro := g.ok r (List.mem_of_getElem? hr1)
          refine ⟨rfl, _, rfl, _, rfl, n, _, rfl, .inl (Same.seq hA.sm hN3), r, ws.length, ?_, ro.1, by have := g.h2; omega, ro.2, fun H4 s5 => rep_step hD hA s5 ?_⟩
          · rw [List.length_map]
            rfl
          · have := (List.getElem?_eq_some_iff.mp hr1).1
            have := g.hr
            omega
        · intro H' hA
          refine ⟨D, _, rfl, SqL.of hA.trues, ?_⟩
          rw [all_trues]
          refine ⟨true, rfl, ?_⟩
          have s5 := s4.trans hA.sm
          refine iteF ⟨_, rfl, .inl ⟨n, _, rfl, Same.seq hA.sm hN3, fun q1 hq1 => ?_⟩⟩
          have t1 := same_new (o := .tup (ws.map strV)) hq1
          refine ⟨_, rfl, .inl ⟨R, _, rfl, SqL.of (t1 _ _ (hA.sm _ _ eR)), fun q2 hq2 => ?_⟩⟩
          have t2 := same_new (o := .tup (rows.map rowV)) hq2
          refine ⟨by show 2 ≤ sizeLine; decide, fun q3 hq3 => ?_⟩
          have t3 := same_new (o := .tup [.ref q1, .ref q2]) hq3
          exact k _ q3 q1 q2 (((s5.trans t1).trans t2).trans t3) upd_same (t3 _ _ (t2 _ _ upd_same)) (t3 _ _ upd_same)
end
end RK
set_option Elab.async false
set_option linter.all false
set_option maxRecDepth 100000
namespace RK
open PySem PySem.Spec PyProof.Rows L2 C8
open SX (S)
section
variable {P : Program} {w : World} {K : PySem.W.Frag} {mg : Str → Option Value} {base : Heap}
/-! the class Book -/
structure BookK (K : PySem.W.Frag) (mg : Str → Option Value) (C : Addr) : Prop where
  ins : InsC K C
  mgC : mg "Book" = some (.ref C)
  nW : NoAttr K C "written"
  nR : NoAttr K C "rules"
  nL : NoAttr K C "lines"
def bf (t : Str) (a b : Addr) : List (Str × V) := putF "lines" (.ref b) (putF "rules" (.ref a) (putF "written" (.str t) []))
theorem str_ne {a b : String} (h : decide (Str.ofString a = Str.ofString b) = false) : ¬ (Str.ofString a = Str.ofString b) := of_decide_eq_false h
theorem bf_written (t : Str) (a b : Addr) : (bf t a b).lookup ("written" : Str) = some (.str t) := by
  unfold bf
  rw [lookup_putF, if_neg (by decide +kernel), lookup_putF, if_neg (by decide +kernel), lookup_putF, if_pos rfl]
theorem bf_rules (t : Str) (a b : Addr) : (bf t a b).lookup ("rules" : Str) = some (.ref a) := by
  unfold bf
  rw [lookup_putF, if_neg (by decide +kernel), lookup_putF, if_pos rfl]
theorem bf_lines (t : Str) (a b : Addr) : (bf t a b).lookup ("lines" : Str) = some (.ref b) := by
  unfold bf
  rw [lookup_putF, if_pos rfl]
theorem putF_le (f : Str) (v : V) : ∀ fs : List (Str × V), (putF f v fs).length ≤ fs.length + 1
  | [] => Nat.le_refl _
  | (g, z) :: r => by
    show (if g = f then _ else _ : List (Str × V)).length ≤ _
    by_cases h : g = f
    · rw [if_pos h]
      simp
    · rw [if_neg h, List.length_cons, List.length_cons]
      exact Nat.succ_le_succ (putF_le f v r)
theorem putF_few {f : Str} {v : V} {fs : List (Str × V)} {n : Nat} (h : fs.length ≤ n) : (putF f v fs).length ≤ n + 1 := Nat.le_trans (putF_le f v fs) (Nat.succ_le_succ h)
/-- a book stands at p -/
def BookAt (C : Addr) (H : Hp) (p : Addr) (ws : List (List Nat)) (rows : List Row) : Prop := ∃ dx a b : Addr, H p = some (.ins C dx (bf (S (said ws rows)) a b)) ∧ H a = some (.tup (ws.map strV)) ∧ H b = some (.tup (rows.map rowV))
theorem BookAt.same {C : Addr} {H H' : Hp} {p : Addr} {ws : List (List Nat)} {rows : List Row} (h : BookAt C H p ws rows) (s : Same H H') : BookAt C H' p ws rows := by
  obtain ⟨dx, a, b, h1, h2, h3⟩ := h
  exact ⟨dx, a, b, s _ _ h1, s _ _ h2, s _ _ h3⟩
abbrev nBInit : List Str := ["self", "text", "found"]
theorem scBInit : FnScope nBInit (nBInit.take 2) (fnScope (inClass (top 17) 0)) := fnScope_by (by decide +kernel)
def spBInit (C : Addr) : Sp := fun vs H Q _ => ∃ (p dx : Addr) (ws : List (List Nat)) (rows : List Row), vs = [.ref p, strV (said ws rows)] ∧ H p = some (.ins C dx []) ∧ GoodB ws rows ∧
  ∀ H' : Hp, But p H H' → BookAt C H' p ws rows → Q .non H'
theorem ok_bInit {C f : Addr} {fd : FuncData} (T : BookK K mg C) (M : Mk K C f) (F : C8.Fun K "__init__" "Book.__init__" (inClass (top 17) 0) f fd) (b : Binds K fd (nBInit.take 2) []) (cIn : Cal P w K mg base 3 "book_in" spBookIn []) :
    Mak P w K mg base 4 "Book" C (spBInit C) [] := by
  refine mak0 M T.mgC F b .nil scBInit (fun vs H Q E h => ?_) (fun cdv A outer s H vs Q E hr h => ?_)
  · obtain ⟨p, dx, ws, rows, rfl, _⟩ := h
    rfl
  · obtain ⟨p, dx, ws, rows, rfl, hp, g, k⟩ := h
    refine ⟨_, pss_cons (ps_set (i := 2) scBInit.nd rfl (Or.inl rfl) (pe_c cIn hr (by decide) (by rfl) (pa_cons (pv 1) pa_nil)))
      (pss_cons (ps_if (pt_cmp (pc_isN (pv 2))) (pss_one ps_never) pss_nil)
      (pss_cons (ps_fld (pv 0) (pv 1) rfl)
      (pss_one (ps_asg (pv 2) (pg_tup (by rfl) (pgs_cons (pg_attr (pv 0)) (pgs_cons (pg_attr (pv 0)) pgs_nil))))))), ?_⟩
    refine ⟨_, rfl, ws, rows, rfl, g, fun H1 q a c s1 hq ha hc => ?_⟩
    have hp1 := s1 _ _ hp
    refine ⟨_, rfl, _, rfl, iteF ⟨_, rfl, _, rfl, p, C, dx, [], rfl, hp1, T.ins.cl, T.nW, by decide, ?_⟩⟩
    have nqp : q ≠ p := ne_of hq hp1 (by intro z; cases z)
    have nap : a ≠ p := ne_of ha hp1 (by intro z; cases z)
    have ncp : c ≠ p := ne_of hc hp1 (by intro z; cases z)
    refine ⟨_, rfl, q, _, rfl, SqT.of (by rw [upd_ne nqp]; exact hq), rfl, _, _, rfl, _, rfl, p, C, dx, _, rfl, upd_same, T.ins.cl, T.nR, Nat.lt_of_le_of_lt (putF_few (n := 0) (Nat.le_refl _)) (by decide), _, _, rfl, _, rfl, p, C, dx, _, rfl, upd_same, T.ins.cl, T.nL,
      Nat.lt_of_le_of_lt (putF_few (n := 1) (putF_few (n := 0) (Nat.le_refl _))) (by decide), rfl, ?_⟩
    refine k _ (fun z o n e => ?_) ⟨dx, a, c, upd_same, ?_, ?_⟩
    · rw [upd_ne n, upd_ne n, upd_ne n]
      exact s1 _ _ e
    · rw [upd_ne nap, upd_ne nap, upd_ne nap]
      exact ha
    · rw [upd_ne ncp, upd_ne ncp, upd_ne ncp]
      exact hc
/-! check_book -/
abbrev nCheck : List Str := ["book"]
theorem scCheck : FnScope nCheck (nCheck.take 1) (fnScope (top 18)) := fnScope_by (by decide +kernel)
def spCheck (C : Addr) : Sp := fun vs H Q _ => ∃ (p dx : Addr) (fs : List (Str × V)), vs = [.ref p] ∧ H p = some (.ins C dx fs) ∧ Q .non H
theorem ok_check {C f : Addr} {fd : FuncData} (T : BookK K mg C) (F : Def K mg "check_book" (top 18) f fd) (b : Binds K fd (nCheck.take 1) []) (mIs : mg "isinstance" = none) : Cal P w K mg base 1 "check_book" (spCheck C) [] := by
  refine cal0 F b .nil scCheck (fun vs H Q E h => ?_) (fun cdv A outer s H vs Q E hr h => ?_)
  · obtain ⟨p, dx, fs, rfl, _⟩ := h
    rfl
  · obtain ⟨p, dx, fs, rfl, hp, k⟩ := h
    refine ⟨_, pss_one (ps_if (pt_not (pt_val (pe_callB (call_isC T.ins) (by rfl) mIs (by decide +kernel) (pa_cons (pv 0) (pa_cons (pe_gc (v := .ref C) (by rfl) ⟨_, T.mgC, rfl⟩) pa_nil))))) (pss_one ps_never) pss_nil), ?_⟩
    exact ⟨_, rfl, p, dx, fs, rfl, hp, true, rfl, iteF k⟩
/-! Book.text -/
abbrev nText : List Str := ["self"]
theorem scText : FnScope nText (nText.take 1) (fnScope (inClass (top 17) 1)) := fnScope_by (by decide +kernel)
def spText (C : Addr) : Sp := fun vs H Q _ => ∃ (p dx : Addr) (t : Str) (fs : List (Str × V)), vs = [.ref p] ∧ H p = some (.ins C dx fs) ∧ fs.lookup ("written" : Str) = some (.str t) ∧ Q (.str t) H
theorem ok_text {C f : Addr} {fd : FuncData} (T : BookK K mg C) (F : C8.Fun K "text" "Book.text" (inClass (top 17) 1) f fd) : FnOk P w K mg base C8.CX0 1 f fd (nText.take 1) (spText C) := by
  refine fn0 F scText (fun vs H Q E h => ?_) (fun cdv A outer s H vs Q E hr h => ?_)
  · obtain ⟨p, dx, t, fs, rfl, _⟩ := h
    rfl
  · obtain ⟨p, dx, t, fs, rfl, hp, ht, k⟩ := h
    refine ⟨_, pss_one (ps_ret (pe_fld (pv 0) rfl)), ?_⟩
    exact ⟨_, rfl, p, C, dx, fs, _, rfl, hp, T.ins.cl, T.nW, ht, k⟩
end
end RK
set_option Elab.async false
set_option linter.all false
set_option maxRecDepth 100000
namespace RK
open PySem PySem.Spec PyProof.Rows L2 C8
open SX (S)
section
variable {P : Program} {w : World} {K : PySem.W.Frag} {mg : Str → Option Value} {base : Heap}
/-! the class Ways -/
structure WaysK (K : PySem.W.Frag) (mg : Str → Option Value) (C : Addr) : Prop where
  cl : Cls K C
  mgC : mg "Ways" = some (.ref C)
  nL : NoAttr K C "lines"
  nM : NoAttr K C "many"
  nE : NoAttr K C "ends"
  nS : NoAttr K C "starts"
def wf (l : Addr) (n : Nat) (d st : Addr) : List (Str × V) := putF "starts" (.ref st) (putF "ends" (.ref d) (putF "many" (nV n) (putF "lines" (.ref l) [])))
theorem wf_lines (l : Addr) (n : Nat) (d st : Addr) : (wf l n d st).lookup ("lines" : Str) = some (.ref l) := by
  unfold wf
  rw [lookup_putF, if_neg (by decide +kernel), lookup_putF, if_neg (by decide +kernel), lookup_putF, if_neg (by decide +kernel), lookup_putF, if_pos rfl]
theorem wf_many (l : Addr) (n : Nat) (d st : Addr) : (wf l n d st).lookup ("many" : Str) = some (nV n) := by
  unfold wf
  rw [lookup_putF, if_neg (by decide +kernel), lookup_putF, if_neg (by decide +kernel), lookup_putF, if_pos rfl]
theorem wf_ends (l : Addr) (n : Nat) (d st : Addr) : (wf l n d st).lookup ("ends" : Str) = some (.ref d) := by
  unfold wf
  rw [lookup_putF, if_neg (by decide +kernel), lookup_putF, if_pos rfl]
theorem wf_can (l : Addr) (n : Nat) (d st : Addr) : (wf l n d st).lookup ("can_be_next" : Str) = none := by
  unfold wf
  rw [lookup_putF, if_neg (by decide +kernel), lookup_putF, if_neg (by decide +kernel), lookup_putF, if_neg (by decide +kernel), lookup_putF, if_neg (by decide +kernel)]
  rfl
theorem wf_behind (l : Addr) (n : Nat) (d st : Addr) : (wf l n d st).lookup ("ends_behind" : Str) = none := by
  unfold wf
  rw [lookup_putF, if_neg (by decide +kernel), lookup_putF, if_neg (by decide +kernel), lookup_putF, if_neg (by decide +kernel), lookup_putF, if_neg (by decide +kernel)]
  rfl
theorem wf_count (l : Addr) (n : Nat) (d st : Addr) : (wf l n d st).lookup ("count" : Str) = none := by
  unfold wf
  rw [lookup_putF, if_neg (by decide +kernel), lookup_putF, if_neg (by decide +kernel), lookup_putF, if_neg (by decide +kernel), lookup_putF, if_neg (by decide +kernel)]
  rfl
/-- ways stand at p, the memo at d -/
def WaysAt (K : PySem.W.Frag) (C : Addr) (H : Hp) (p : Addr) (rows : List Row) (n : Nat) (d : Addr) : Prop := ∃ dx l st : Addr, H p = some (.ins C dx (wf l n d st)) ∧ SqT K H l (rows.map rowV)
theorem WaysAt.same {C : Addr} {H H' : Hp} {p d : Addr} {n : Nat} {rows : List Row} (h : WaysAt K C H p rows n d) (s : Same H H') : WaysAt K C H' p rows n d := by
  obtain ⟨dx, l, st, h1, h2⟩ := h
  exact ⟨dx, l, st, s _ _ h1, Same.seqT s h2⟩
/-! can_be_next -/
abbrev nCan : List Str := ["self", "above", "rule", "row", "k"]
abbrev stCan : Stmt := inClass (top 20) 1
theorem scCan : FnScope nCan (nCan.take 3) (fnScope stCan) := fnScope_by (by decide +kernel)
def spCan (K : PySem.W.Frag) (C : Addr) : Sp := fun vs H Q _ => ∃ (p a d : Addr) (n k : Nat) (rows : List Row) (above : List Nat), vs = [.ref p, .ref a, nV k] ∧ WaysAt K C H p rows n d ∧ SqT K H a (above.map nV) ∧ n ≤ 8 ∧ rows.length ≤ 100 ∧ above.length ≤ 100 ∧ RowsOk n rows ∧ k < n ∧ (∀ j ∈ above, j < n) ∧
  ∀ H' : Hp, Same H H' → Q (.bl (canNext rows above k)) H'
theorem any_at {α : Type} (f : α → Bool) (l : List α) : ((l.map f).any id) = l.any f := by
  rw [List.any_map]
  rfl
theorem bl_map {α : Type} (f : α → Bool) (l : List α) : (l.map fun x => V.bl (f x)) = (l.map f).map V.bl := by rw [List.map_map]; rfl
theorem ok_can {C f : Addr} {fd : FuncData} (T : WaysK K mg C) (me : Meth K C "can_be_next" f) (F : C8.Fun K "can_be_next" "Ways.can_be_next" stCan f fd) (b : Binds K fd (nCan.take 3) []) (mAny : mg "any" = none) : Met P w K mg base 1 C "can_be_next" (spCan K C) [] := by
  refine met0 T.cl me F b scCan (fun vs H Q E h => ?_) (fun cdv A outer s H vs Q E hr h => ?_)
  · obtain ⟨p, a, d, n, k, rows, above, rfl, _⟩ := h
    rfl
  · obtain ⟨p, a, d, n, r, rows, above, rfl, ⟨dx, l, st, hp, hl⟩, ha, hn, h1, h2, hR, hk, hab, k⟩ := h
    refine ⟨_, pss_cons (ps_if (pt_cmpR op_in_seq (pv 2) (pv 1) (by rfl)) (pss_one (ps_ret pe_bl)) pss_nil)
      (pss_one (ps_ret (pe_not (pe_callB (cr_any rfl) (by rfl) mAny (by decide +kernel) (pa_cons (pe_lc (own := [("row", 3)]) (g := gName 3) (tt := tYes) (by rfl) scCan.nd (pi_tup (pe_fld (pv 0) rfl))
        (blkOk_by (own := [("row", 3)]) (N := nCan) (sc := fnScope stCan) (by decide +kernel)) (fun _ _ _ _ _ => pg_name (i := 3) scCan.nd rfl (Or.inr rfl)) (fun _ _ _ _ _ => pts_nil)
        (fun _ _ _ _ _ => pe_and (pe_cmpR op_eq (pe_ix ix_str (pv 3) (pv 2) (fun _ _ => rfl)) pe_str (nomark _))
          (pe_one (pe_not (pe_callB (r := rAny K) (cr_any rfl) (by rfl) mAny (by decide +kernel) (pa_cons (pe_lc (wi := iTup K (tVar 1)) (own := [("k", 4)]) (g := gName 4) (tt := tYes) (by rfl) scCan.nd (pi_tup (pv 1))
            (blkOk_by (own := [("k", 4)]) (by kernel_rfl)) (fun _ _ _ _ _ => pg_name (i := 4) scCan.nd rfl (Or.inl rfl)) (fun _ _ _ _ _ => pts_nil)
            (fun _ _ _ _ _ => pe_cmpR op_eq (pe_ix ix_str (pv 3) (pv 4) (fun _ _ => rfl)) pe_str (nomark _))) pa_nil)))))) pa_nil))))), ?_⟩
    refine ⟨_, rfl, _, rfl, a, _, rfl, .inr ha, rfl, flat_nats above, _, rfl, ?_⟩
    show if inV (nV r) (above.map nV) = true then _ else _
    rw [inV_nat]
    cases ec : above.contains r with
    | true =>
      refine iteT ?_
      have e : canNext rows above r = false := by unfold canNext; rw [ec]; rfl
      have := k H (.refl _)
      rw [e] at this
      exact this
    | false =>
      have e : canNext rows above r = !rows.any (blocks above r) := by unfold canNext; rw [ec]; rfl
      refine iteF ⟨_, rfl, p, C, dx, _, _, rfl, hp, T.cl, T.nL, wf_lines _ _ _ _, l, rfl, ⟨_, hl⟩, fun D hD => ?_⟩
      refine lc_tup (xs := rows.map rowV) (fun i H' => Acc D H ((rows.take i).map fun z => V.bl (blocks above r z)) H') (acc_start hD) (fun _ _ _ hA => Same.seqT hA.sm hl) ?_ ?_
      · rintro i x H' hi hA
        obtain ⟨z, hz, rfl⟩ := map_at hi
        have zo := hR z (List.mem_of_getElem? hz)
        have len : (rows.take i).length ≤ rows.length := by rw [List.length_take]; exact Nat.min_le_right _ _
        have hzl : (S z).length ≤ sizeLine := by rw [SX.S_len]; exact Nat.le_trans (by omega) (show 8 ≤ sizeLine by decide)
        refine ⟨rfl, _, rfl, _, rfl, _, _, _, rfl, rfl, hzl, sg_at (by omega), rfl, _, rfl, ?_⟩
        rw [show (V.str ("-" : Str)) = V.str ⟨#[45]⟩ from rfl, sign_eq]
        cases em : (sg z r == 45) with
        | false =>
          refine iteF (acc_step hD hA (.refl _) (by rw [List.length_map]; omega) ?_)
          have eb : blocks above r z = false := by unfold blocks; rw [em]; rfl
          rw [take_map (fun z => V.bl (blocks above r z)) hz, eb]
        | true =>
          refine iteT ⟨_, rfl, a, rfl, ⟨_, Same.seqT hA.sm ha⟩, fun D2 hD2 => ?_⟩
          refine lc_tup (xs := above.map nV) (fun j H'' => Acc D2 H' ((above.take j).map fun y => V.bl (sg z y == 43)) H'') (acc_start hD2) (fun _ _ _ hB => Same.seqT (hA.sm.trans hB.sm) ha) ?_ ?_
          · rintro j y H'' hj hB
            obtain ⟨y, hy, rfl⟩ := map_at hj
            have hyn := hab y (List.mem_of_getElem? hy)
            have len2 : (above.take j).length ≤ above.length := by rw [List.length_take]; exact Nat.min_le_right _ _
            refine ⟨rfl, _, rfl, _, rfl, _, _, _, rfl, rfl, hzl, sg_at (by omega), rfl, ?_⟩
            rw [show (V.str ("+" : Str)) = V.str ⟨#[43]⟩ from rfl, sign_eq]
            exact acc_step hD2 hB (.refl _) (by rw [List.length_map]; omega) (take_map (fun y => V.bl (sg z y == 43)) hy)
          · intro H'' hB
            have hB1 := hB.at_
            rw [List.length_map, List.take_length, bl_map] at hB1
            refine ⟨D2, _, rfl, SqL.of hB1, _, rfl, acc_step hD hA hB.sm (by rw [List.length_map]; omega) ?_⟩
            rw [take_map (fun z => V.bl (blocks above r z)) hz, any_at]
            have eb : blocks above r z = !plusIn z above := by unfold blocks; rw [em]; rfl
            rw [eb]
            rfl
      · intro H' hA
        have hA1 := hA.at_
        rw [List.length_map, List.take_length, bl_map] at hA1
        refine ⟨D, _, rfl, SqL.of hA1, _, rfl, ?_⟩
        have := k H' hA.sm
        rw [e] at this
        rw [any_at]
        exact this
end
end RK
set_option Elab.async false
set_option linter.all false
set_option maxRecDepth 100000
namespace RK
open PySem PySem.Spec PyProof.Rows L2 C8
open SX (S)
section
variable {P : Program} {w : World} {K : PySem.W.Frag} {mg : Str → Option Value} {base : Heap}
/-! Ways.ends_behind, by how many rules are left -/
abbrev nEnds : List Str := ["self", "above", "rules", "rule"]
abbrev stEnds : Stmt := inClass (top 20) 2
theorem scEnds : FnScope nEnds (nEnds.take 2) (fnScope stEnds) := fnScope_by (by decide +kernel)
def keyOf (s : List Nat) : List Key := s.map fun (j : Nat) => Sum.inl (j : Int)
theorem keyOf_vals (s : List Nat) : (keyOf s).map kV = s.map nV := by
  unfold keyOf
  rw [List.map_map]
  rfl
theorem keyOf_inj : ∀ {a b : List Nat}, keyOf a = keyOf b → a = b
  | [], [], _ => rfl
  | [], _ :: _, h => by cases h
  | _ :: _, [], h => by cases h
  | x :: a, y :: b, h => by
    have h' : (Sum.inl (x : Int) : Key) :: keyOf a = Sum.inl (y : Int) :: keyOf b := h
    injection h' with h1 h2
    injection h1 with h1
    rw [keyOf_inj h2, show x = y by omega]
def Memo (rows : List Row) (n : Nat) (kvs : List (List Key × V)) : Prop := ∀ (s : List Nat) (v : V), valV kvs (keyOf s) = some v → v = nV (G rows n (n - s.length) s)
theorem Memo.put {rows : List Row} {n : Nat} {kvs : List (List Key × V)} (h : Memo rows n kvs) (s : List Nat) : Memo rows n (putK kvs (keyOf s) (nV (G rows n (n - s.length) s))) := fun t v e => by
  rw [valV_put] at e
  by_cases q : keyOf t = keyOf s
  · rw [if_pos q] at e
    rw [keyOf_inj q]
    exact (Option.some.inj e).symm
  · rw [if_neg q] at e
    exact h t v e
def cost (n : Nat) : Nat → Nat
  | 0 => 0
  | m + 1 => n * cost n m + 1
theorem perm_nats {ns : List Int} {l : List Nat} (h : ns.Perm (l.map fun (j : Nat) => (j : Int))) : ∃ zs : List Nat, ns.map V.int = zs.map nV ∧ zs.Perm l := by
  refine ⟨ns.map Int.toNat, ?_, ?_⟩
  · rw [List.map_map]
    refine List.map_congr_left fun x hx => ?_
    obtain ⟨j, _, e⟩ := List.mem_map.mp (h.mem_iff.mp hx)
    show V.int x = V.int ((x.toNat : Nat) : Int)
    rw [← e]
    rfl
  · have := h.map Int.toNat
    rw [List.map_map] at this
    have e : l.map (Int.toNat ∘ fun (j : Nat) => (j : Int)) = l := by
      rw [show (Int.toNat ∘ fun j : Nat => (j : Int)) = id from funext fun j => by simp]
      exact List.map_id l
    rwa [e] at this
theorem sum_cast : ∀ l : List Nat, (l.map fun (j : Nat) => (j : Int)).sum = ((l.sum : Nat) : Int)
  | [] => rfl
  | x :: l => by
    rw [List.map_cons, List.sum_cons, List.sum_cons, sum_cast l]
    omega
theorem but_tup {d a : Addr} {H H' : Hp} {xs : List V} {kvs : List (List Key × V)} (e : But d H H') (hd : H d = some (.dT kvs)) (h : H a = some (.tup xs)) : H' a = some (.tup xs) := e _ _ (ne_of h hd (by intro q; cases q)) h
theorem but_seqT {d a : Addr} {H H' : Hp} {xs : List V} {kvs : List (List Key × V)} (e : But d H H') (hd : H d = some (.dT kvs)) (h : SqT K H a xs) : SqT K H' a xs := by
  rcases h with (h | ⟨o, h⟩) | h
  · exact .inl (.inl (e _ _ (ne_of h hd (by intro q; cases q)) h))
  · exact .inl (.inr ⟨o, e _ _ (ne_of h hd (by intro q; cases q)) h⟩)
  · exact .inr h
theorem WaysAt.but {C : Addr} {H H' : Hp} {p d : Addr} {n : Nat} {rows : List Row} {kvs : List (List Key × V)} (h : WaysAt K C H p rows n d) (s : But d H H') (hd : H d = some (.dT kvs)) : WaysAt K C H' p rows n d := by
  obtain ⟨dx, l, st, h1, h2⟩ := h
  exact ⟨dx, l, st, s _ _ (ne_of h1 hd (by intro q; cases q)) h1, but_seqT s hd h2⟩
theorem pa_starK {X : Cx} {te : TE} {t : TA} {e : Expr} {es : List Expr} {p : Pos} (hK : X.K = K) (he : PE X e te) (hr : PA X es t) (hs : starEach (.Starred e p :: es) X.env = (true, eval e X.env) :: starEach es X.env := by rfl) :
    PA X (.Starred e p :: es) (StX.tStar K te t) := by
  subst hK
  exact StX.pa_star he hr hs
theorem pe_tupK {X : Cx} {a : Expr} {ta : TE} {p pos : Pos} (hK : X.K = K) (hg : Gl X "tuple") (hm : X.mg "tuple" = none) (ha : PE X a ta) (na : starEach [a] X.env = (false, eval a X.env) :: starEach [] X.env := by rfl) :
    PE X (.Call (.Name "tuple" p) [a] [] pos) (tThen ta (kTup K)) := by
  subst hK
  exact pe_tupleOf hg hm ha na
def spEnds (K : PySem.W.Frag) (C : Addr) (m : Nat) : Sp := fun vs H Q _ => ∃ (p a d : Addr) (n : Nat) (rows : List Row) (above : List Nat) (kvs : List (List Key × V)), vs = [.ref p, .ref a] ∧ WaysAt K C H p rows n d ∧ H d = some (.dT kvs) ∧ Memo rows n kvs ∧
  H a = some (.tup (above.map nV)) ∧ above.length + m = n ∧ n ≤ 6 ∧ rows.length ≤ 100 ∧ RowsOk n rows ∧ (∀ j ∈ above, j < n) ∧ kvs.length + cost n m ≤ 1000000 ∧
  ∀ (H' : Hp) (kvs' : List (List Key × V)), But d H H' → H' d = some (.dT kvs') → Memo rows n kvs' → kvs'.length ≤ kvs.length + cost n m → Q (nV (G rows n m above)) H'
theorem ok_ends0 {C f : Addr} {fd : FuncData} (T : WaysK K mg C) (me : Meth K C "ends_behind" f) (F : C8.Fun K "ends_behind" "Ways.ends_behind" stEnds f fd) (b : Binds K fd (nEnds.take 2) []) (mL : mg "len" = none) : Met P w K mg base 1 C "ends_behind" (spEnds K C 0) [] := by
  refine met0 T.cl me F b scEnds (fun vs H Q E h => ?_) (fun cdv A outer s H vs Q E hr h => ?_)
  · obtain ⟨p, a, d, n, rows, above, kvs, rfl, _⟩ := h
    rfl
  · obtain ⟨p, a, d, n, rows, above, kvs, rfl, ⟨dx, l, st, hp, hl⟩, hd, hM, ha, hn, _, _, _, _, hc, k⟩ := h
    refine ⟨_, pss_cons (ps_if (pt_cmpR op_eq (pe_callB call_len_seq (by rfl) mL PySem.boot_len (pa_cons (pv 1) pa_nil)) (pe_fld (pv 0) rfl) (nomark _)) (pss_one (ps_ret pe_int)) pss_nil) pss_never, ?_⟩
    refine ⟨_, rfl, a, _, rfl, .inr (SqT.of ha), _, rfl, p, C, dx, _, _, rfl, hp, T.cl, T.nM, wf_many _ _ _ _, rfl, _, rfl, ?_⟩
    rw [List.length_map, decide_eq_true (show V.int (above.length : Int) = nV n by rw [show above.length = n by omega])]
    exact iteT (k H kvs (But.refl _ _) hd hM (Nat.le_refl _))
theorem ok_ends {C f : Addr} {fd : FuncData} (T : WaysK K mg C) (me : Meth K C "ends_behind" f) (F : C8.Fun K "ends_behind" "Ways.ends_behind" stEnds f fd) (b : Binds K fd (nEnds.take 2) []) (cCan : Met P w K mg base 1 C "can_be_next" (spCan K C) [])
    (mL : mg "len" = none) (mR : mg "range" = none) (mS : mg "sorted" = none) (mSum : mg "sum" = none) (mT : mg "tuple" = none) : ∀ m : Nat, Met P w K mg base (m + 1) C "ends_behind" (spEnds K C m) []
  | 0 => ok_ends0 T me F b mL
  | m + 1 => by
    have cRec := ok_ends T me F b cCan mL mR mS mSum mT m
    refine met0 T.cl me F b scEnds (fun vs H Q E h => ?_) (fun cdv A outer s H vs Q E hr h => ?_)
    · obtain ⟨p, a, d, n, rows, above, kvs, rfl, _⟩ := h
      rfl
    · obtain ⟨p, a, d, n, rows, above, kvs, rfl, hW, hd, hM, ha, hn, hn6, hrl, hR', hab, hc, k⟩ := h
      have hu := hu_of hr
      refine ⟨_, pss_cons (ps_if (pt_cmpR op_eq (pe_callB call_len_seq (by rfl) mL PySem.boot_len (pa_cons (pv 1) pa_nil)) (pe_fld (pv 0) rfl) (nomark _)) (pss_one (ps_ret pe_int)) pss_nil)
        (pss_cons (ps_if (pt_cmp (pc_dnotin hu (pv 1) (pe_fld (pv 0) rfl)))
          (pss_cons (ps_setLc (i := 2) (own := [("rule", 3)]) (g := gName 3) (by rfl) scEnds.nd rfl rfl (sw_true rfl rfl rfl (by decide +kernel)) (pi_range1 (by rfl) mR (pa_cons (pe_fld (pv 0) rfl) pa_nil))
            (blkOk_by (own := [("rule", 3)]) (N := nEnds) (sc := fnScope stEnds) (by decide +kernel)) (fun _ _ _ _ _ => pg_name (i := 3) scEnds.nd rfl (Or.inl rfl))
            (fun _ _ _ _ _ => pts_one (pt_val (pe_mt cCan hr (by omega) (pv 0) (pa_cons (pv 1) (pa_cons (pv 3) pa_nil)))))
            (fun _ _ _ _ _ => pv 3))
          (pss_one (ps_dput hu (pe_fld (pv 0) rfl) (pv 1) (pe_callB (cr_sum rfl) (by rfl) mSum (by decide +kernel) (pa_cons (pe_lc (own := [("rule", 3)]) (g := gName 3) (tt := tYes) (by rfl) scEnds.nd (pi_list (pv 2))
            (blkOk_by (own := [("rule", 3)]) (N := nEnds) (sc := fnScope stEnds) (by decide +kernel)) (fun _ _ _ _ _ => pg_name (i := 3) scEnds.nd rfl (Or.inl rfl)) (fun _ _ _ _ _ => pts_nil)
            (fun _ _ _ _ _ => pe_mt cRec hr (Nat.le_refl _) (pv 0) (pa_cons (pe_tupK (K := K) rfl (by rfl) mT (pe_callB (r := rSorted K) cr_sorted (by rfl) mS (by decide +kernel) (pa_cons (pe_lst (pa_starK (K := K) rfl (pv 1) (pa_cons (pv 3) pa_nil))) pa_nil))) pa_nil))) pa_nil)) rfl))) pss_nil)
        (pss_one (ps_ret (pe_dget hu (pe_fld (pv 0) rfl) (pv 1) (fun _ _ => rfl))))), ?_⟩
      have hkey : H a = some (.tup ((keyOf above).map kV)) := by rw [keyOf_vals]; exact ha
      have nEq : n - above.length = m + 1 := by omega
      obtain ⟨dx, l, st, hp, hl⟩ := id hW
      refine ⟨_, rfl, a, _, rfl, .inr (SqT.of ha), _, rfl, p, C, dx, _, _, rfl, hp, T.cl, T.nM, wf_many _ _ _ _, rfl, _, rfl, ?_⟩
      rw [List.length_map, decide_eq_false (show ¬ V.int (above.length : Int) = nV n by intro e; injection e with e; omega)]
      refine iteF ⟨_, rfl, _, rfl, p, C, dx, _, _, rfl, hp, T.cl, T.nE, wf_ends _ _ _ _, d, _, rfl, DGet.t hd hkey, _, rfl, ?_⟩
      cases ev : valV kvs (keyOf above) with
      | some v =>
        refine iteF ⟨_, rfl, p, C, dx, _, _, rfl, hp, T.cl, T.nE, wf_ends _ _ _ _, _, rfl, d, v, rfl, ?_, ?_⟩
        · have g := DGet.t hd hkey
          rw [ev] at g
          exact g
        · have e := hM above v ev
          rw [nEq] at e
          rw [e]
          exact k H kvs (But.refl _ _) hd hM (Nat.le_add_right _ _)
      | none =>
        have hcost : cost n (m + 1) = n * cost n m + 1 := rfl
        refine iteT ⟨_, rfl, p, C, dx, _, _, rfl, hp, T.cl, T.nM, wf_many _ _ _ _, (n : Int), rfl, by omega, by omega, fun R hR => ?_⟩
        refine lc_range (lo := 0) (n := (n : Int).toNat) (fun i H' => Acc R H ((((List.range n).take i).filter (canNext rows above)).map nV) H') (acc_start hR) ?_ ?_
        · rintro i H' hi hA
          have hin : i < n := by omega
          have e0 : V.int (0 + (i : Int)) = nV i := congrArg V.int (by omega)
          have hr1 : (List.range n)[i]? = some i := by rw [List.getElem?_range hin]
          rw [e0]
          refine ⟨rfl, _, rfl, p, dx, _, rfl, hA.sm _ _ hp, wf_can _ _ _ _, _, rfl, _, rfl, p, a, d, n, i, rows, above, rfl, hW.same hA.sm, SqT.of (hA.sm _ _ ha), by omega, hrl, by omega, hR', hin, hab, fun H2 s2 => ⟨_, rfl, ?_⟩⟩
          cases e : canNext rows above i with
          | false => exact iteF (acc_keep hA s2 (take_drop_out (canNext rows above) nV hr1 e))
          | true => exact iteT ⟨_, rfl, acc_step hR hA s2 (Nat.le_trans (take_flen _ _ _ _) (by rw [List.length_range]; omega)) (take_filter (canNext rows above) nV hr1 e)⟩
        · intro H1 hA
          have hA1 := hA.at_
          rw [show (n : Int).toNat = n by omega, List.take_of_length_le (by rw [List.length_range]; exact Nat.le_refl n)] at hA1
          have hA1 : H1 R = some (.lst ((next rows n above).map nV)) := hA1
          have s1 := hA.sm
          have hp1 := s1 _ _ hp
          have hd1 := s1 _ _ hd
          have nRd : R ≠ d := ne_of hA1 hd1 (by intro z; cases z)
          have nextLen : (next rows n above).length ≤ n := by
            unfold next
            exact Nat.le_trans (List.length_filter_le _ _) (by rw [List.length_range]; exact Nat.le_refl n)
          refine ⟨_, rfl, R, rfl, ⟨_, SqL.of hA1⟩, fun D hD => ?_⟩
          have nDd : D ≠ d := (ne_of_none hd1 hD).symm
          have sD := same_new (o := .lst []) hD
          refine lc_list (K := K) (a := R) (xs := (next rows n above).map nV) (fun i H' => ∃ kvs' : List (List Key × V), H' D = some (.lst (((next rows n above).take i).map fun r => nV (G rows n m (above ++ [r])))) ∧ But d H1 H' ∧ H' d = some (.dT kvs') ∧ Memo rows n kvs' ∧ kvs'.length ≤ kvs.length + i * cost n m)
            ⟨kvs, upd_same, Same.but sD, sD _ _ hd1, hM, by omega⟩ (fun i H' _ ⟨_, _, hb, _⟩ => SqL.of (hb _ _ nRd hA1)) ?_ ?_
          · rintro i x H' hi ⟨kvs', eD, hb, hd', hM', hl'⟩
            obtain ⟨r, hr1, rfl⟩ := map_at hi
            have hrm : r ∈ next rows n above := List.mem_of_getElem? hr1
            have hrn : r < n := by
              unfold next at hrm
              exact List.mem_range.mp (List.mem_filter.mp hrm).1
            have hil : i < n := Nat.lt_of_lt_of_le (List.getElem?_eq_some_iff.mp hr1).1 nextLen
            have hic : i * cost n m + cost n m ≤ n * cost n m := by
              have : (i + 1) * cost n m ≤ n * cost n m := Nat.mul_le_mul_right _ hil
              rwa [Nat.add_mul, Nat.one_mul] at this
            have npd : p ≠ d := ne_of hp hd (by intro z; cases z)
            have nad : a ≠ d := ne_of ha hd (by intro z; cases z)
            have ha' := hb _ _ nad (s1 _ _ ha)
            refine ⟨rfl, _, rfl, p, dx, _, rfl, hb _ _ npd hp1, wf_behind _ _ _ _, _, rfl, a, _, rfl, .inl (SqT.of ha'), _, rfl, ?_, fun q hq => ?_⟩
            · rw [List.length_append, List.length_map, sizeLine_eq]
              show above.length + 1 ≤ _
              omega
            · have sq := same_new (o := .lst (above.map nV ++ [nV r])) hq
              refine ⟨q, (above ++ [r]).map fun (j : Nat) => (j : Int), rfl, SqL.of ?_, by rw [List.length_map, List.length_append]; show above.length + 1 < 64; omega, fun ns' z hperm _ hz => ?_⟩
              · rw [upd_same, List.map_map, List.map_append]
                rfl
              · obtain ⟨zs, ez, pz⟩ := perm_nats hperm
                have sz := sq.trans (same_new (o := .lst (ns'.map V.int)) hz)
                refine .inl ⟨z, _, rfl, SqL.of upd_same, fun t ht => ?_⟩
                have stt := sz.trans (same_new (o := .tup (ns'.map V.int)) ht)
                have lz : zs.length = above.length + 1 := by rw [pz.length_eq, List.length_append]; rfl
                refine ⟨p, t, d, n, rows, zs, kvs', rfl, ((hW.same s1).but hb hd1).same stt, stt _ _ hd', hM', by rw [upd_same, ez], by omega, hn6, hrl, hR', fun j hj => ?_, by omega, fun H2 kvs2 hb2 hd2 hM2 hl2 => ?_⟩
                · rcases List.mem_append.mp (pz.mem_iff.mp hj) with hj | hj
                  · exact hab j hj
                  · rw [List.mem_singleton.mp hj]; exact hrn
                · have eD2 : H2 D = some (.lst (((next rows n above).take i).map fun r => nV (G rows n m (above ++ [r])))) := hb2 _ _ nDd (stt _ _ eD)
                  refine ⟨_, eD2, small1000 (by rw [List.length_map, List.length_take]; omega), kvs2, ?_, fun b o nb e => ?_, by rw [upd_ne nDd.symm]; exact hd2, hM2, by rw [Nat.add_mul, Nat.one_mul]; omega⟩
                  · rw [upd_same, take_map (fun r => nV (G rows n m (above ++ [r]))) hr1, G_alike (Alike.of_perm pz)]
                  · rw [upd_ne (fun z => by rw [z, hD] at e; cases e)]
                    exact hb2 _ _ nb (stt _ _ (hb _ _ nb e))
          · rintro H2 ⟨kvs2, eD, hb, hd2, hM2, hl2⟩
            rw [List.length_map, List.take_length] at eD
            rw [List.length_map] at hl2
            have npd : p ≠ d := ne_of hp hd (by intro z; cases z)
            have nad : a ≠ d := ne_of ha hd (by intro z; cases z)
            have hp2 := hb _ _ npd hp1
            have hkey2 := hb _ _ nad (s1 _ _ hkey)
            have hnl : (next rows n above).length * cost n m ≤ n * cost n m := Nat.mul_le_mul_right _ nextLen
            have tot : (((next rows n above).map fun r => G rows n m (above ++ [r])).map fun (j : Nat) => (j : Int)).sum = ((G rows n (m + 1) above : Nat) : Int) := sum_cast _
            refine ⟨D, ((next rows n above).map fun r => G rows n m (above ++ [r])).map fun (j : Nat) => (j : Int), rfl, SqL.of (by rw [eD, List.map_map, List.map_map]; rfl), ?_⟩
            rw [tot]
            have hlt : kvs2.length < sizeLine := Nat.lt_of_le_of_lt (show kvs2.length ≤ 1000000 by omega) (by decide)
            refine ⟨_, rfl, p, C, dx, _, _, rfl, hp2, T.cl, T.nE, wf_ends _ _ _ _, _, rfl, d, _, rfl, DPut.t hd2 hkey2 hlt, ?_⟩
            have hp3 : (upd H2 d (.dT (putK kvs2 (keyOf above) (V.int ((G rows n (m + 1) above : Nat) : Int))))) p = some (.ins C dx (wf l n d st)) := by rw [upd_ne npd]; exact hp2
            have hkey3 : (upd H2 d (.dT (putK kvs2 (keyOf above) (V.int ((G rows n (m + 1) above : Nat) : Int))))) a = some (.tup ((keyOf above).map kV)) := by rw [upd_ne nad]; exact hkey2
            refine ⟨_, rfl, p, C, dx, _, _, rfl, hp3, T.cl, T.nE, wf_ends _ _ _ _, _, rfl, d, nV (G rows n (m + 1) above), rfl, ?_, ?_⟩
            · have g := DGet.t (k := keyOf above) (kvs := putK kvs2 (keyOf above) (V.int ((G rows n (m + 1) above : Nat) : Int))) upd_same hkey3
              rw [valV_put, if_pos rfl] at g
              exact g
            · refine k _ _ (fun b o nb e => ?_) upd_same ?_ ?_
              · rw [upd_ne nb]
                exact hb _ _ nb (s1 _ _ e)
              · have := hM2.put above
                rw [nEq] at this
                exact this
              · have := length_putK kvs2 (keyOf above) (V.int ((G rows n (m + 1) above : Nat) : Int))
                omega
end
end RK
set_option Elab.async false
set_option linter.all false
set_option maxRecDepth 100000
namespace RK
open PySem PySem.Spec PyProof.Rows L2 C8
open SX (S)
section
variable {P : Program} {w : World} {K : PySem.W.Frag} {mg : Str → Option Value} {base : Heap}
/-! Ways.__init__, count, ways_of -/
abbrev nWInit : List Str := ["self", "rows", "many"]
theorem scWInit : FnScope nWInit (nWInit.take 3) (fnScope (inClass (top 20) 0)) := fnScope_by (by decide +kernel)
def spWInit (K : PySem.W.Frag) (C : Addr) : Sp := fun vs H Q _ => ∃ (p dx l : Addr) (n : Nat) (rows : List Row), vs = [.ref p, .ref l, nV n] ∧ H p = some (.ins C dx []) ∧ SqT K H l (rows.map rowV) ∧
  ∀ (H' : Hp) (d : Addr), But p H H' → H d = none → H' d = some (.dT []) → WaysAt K C H' p rows n d → Q .non H'
theorem ok_wInit {C f : Addr} {fd : FuncData} (T : WaysK K mg C) (M : Mk K C f) (F : C8.Fun K "__init__" "Ways.__init__" (inClass (top 20) 0) f fd) (b : Binds K fd (nWInit.take 3) []) : Mak P w K mg base 1 "Ways" C (spWInit K C) [] := by
  refine mak0 M T.mgC F b .nil scWInit (fun vs H Q E h => ?_) (fun cdv A outer s H vs Q E hr h => ?_)
  · obtain ⟨p, dx, l, n, rows, rfl, _⟩ := h
    rfl
  · obtain ⟨p, dx, l, n, rows, rfl, hp, hl, k⟩ := h
    have hu := hu_of hr
    refine ⟨_, pss_cons (ps_fld (pv 0) (pv 1) rfl) (pss_cons (ps_fld (pv 0) (pv 2) rfl) (pss_cons (ps_fld (pv 0) pe_dnewT rfl) (pss_one (ps_fld (pv 0) (pe_oneT hu (pe_tup pa_nil) pe_int) rfl)))), ?_⟩
    refine ⟨_, rfl, _, rfl, p, C, dx, [], rfl, hp, T.cl, T.nL, by decide, ?_⟩
    refine ⟨_, rfl, _, rfl, p, C, dx, _, rfl, upd_same, T.cl, T.nM, Nat.lt_of_le_of_lt (putF_few (n := 0) (Nat.le_refl _)) (by decide), ?_⟩
    rw [upd_upd]
    refine fun d hd => ⟨_, rfl, p, C, dx, putF "many" (nV n) (putF "lines" (.ref l) []), rfl, ?_, T.cl, T.nE, (by exact Nat.lt_of_le_of_lt (putF_few (n := 1) (putF_few (n := 0) (Nat.le_refl _))) (by decide)), ?_⟩
    · have nd : p ≠ d := fun e => by rw [e, upd_same] at hd; cases hd
      rw [upd_ne nd, upd_same]
    · have nd : p ≠ d := fun e => by rw [e, upd_same] at hd; cases hd
      have hd0 : H d = none := by rw [upd_ne nd.symm] at hd; exact hd
      refine fun st hst => ⟨Nat.zero_le _, fun t ht => ?_⟩
      have npst : p ≠ st := fun e => by rw [e, upd_same] at hst; cases hst
      have ndst : d ≠ st := fun e => by rw [e, upd_ne npst.symm, upd_same] at hst; cases hst
      have nts : st ≠ t := fun e => by rw [← e, upd_same] at ht; cases ht
      have ntp : p ≠ t := fun e => by rw [← e, upd_ne npst, upd_same] at ht; cases ht
      have ntd : d ≠ t := fun e => by rw [← e, upd_ne ndst, upd_ne nd.symm, upd_same] at ht; cases ht
      have hst0 : H st = none := by rw [upd_ne npst.symm, upd_ne ndst.symm, upd_ne npst.symm] at hst; exact hst
      have ht0 : H t = none := by rw [upd_ne nts.symm, upd_ne ntp.symm, upd_ne ntd.symm, upd_ne ntp.symm] at ht; exact ht
      refine ⟨by rw [upd_ne nts, upd_same], t, [], rfl, upd_same, ?_⟩
      refine ⟨_, rfl, p, C, dx, putF "ends" (.ref d) (putF "many" (nV n) (putF "lines" (.ref l) [])), rfl, by rw [upd_ne npst, upd_ne ntp, upd_ne npst, upd_same], T.cl, T.nS, (by exact Nat.lt_of_le_of_lt (putF_few (n := 2) (putF_few (n := 1) (putF_few (n := 0) (Nat.le_refl _)))) (by decide)), ?_⟩
      refine k _ d (fun z o n e => ?_) hd0 ?_ ⟨dx, l, st, upd_same, ?_⟩
      · rw [upd_ne n, upd_ne (fun e2 => by rw [e2, hst0] at e; cases e), upd_ne (fun e2 => by rw [e2, ht0] at e; cases e), upd_ne (fun e2 => by rw [e2, hst0] at e; cases e), upd_ne n, upd_ne (fun e2 => by rw [e2, hd0] at e; cases e), upd_ne n]
        exact e
      · rw [upd_ne nd.symm, upd_ne ndst, upd_ne ntd, upd_ne ndst, upd_ne nd.symm, upd_same]
      · rcases hl with (h | ⟨o, h⟩) | h
        · refine .inl (.inl ?_)
          rw [upd_ne (ne_of h hp (by intro q; cases q)), upd_ne (ne_of_none h hst0), upd_ne (ne_of_none h ht0), upd_ne (ne_of_none h hst0), upd_ne (ne_of h hp (by intro q; cases q)), upd_ne (ne_of_none h hd0), upd_ne (ne_of h hp (by intro q; cases q))]
          exact h
        · refine .inl (.inr ⟨o, ?_⟩)
          rw [upd_ne (ne_of h hp (by intro q; cases q)), upd_ne (ne_of_none h hst0), upd_ne (ne_of_none h ht0), upd_ne (ne_of_none h hst0), upd_ne (ne_of h hp (by intro q; cases q)), upd_ne (ne_of_none h hd0), upd_ne (ne_of h hp (by intro q; cases q))]
          exact h
        · exact .inr h
abbrev nCount : List Str := ["self"]
theorem scCount : FnScope nCount (nCount.take 1) (fnScope (inClass (top 20) 4)) := fnScope_by (by decide +kernel)
def spCount (K : PySem.W.Frag) (C : Addr) : Sp := fun vs H Q _ => ∃ (p d : Addr) (n : Nat) (rows : List Row), vs = [.ref p] ∧ WaysAt K C H p rows n d ∧ H d = some (.dT []) ∧ n ≤ 6 ∧ rows.length ≤ 100 ∧ RowsOk n rows ∧
  ∀ H' : Hp, But d H H' → Q (nV (G rows n n [])) H'
theorem cost_small {n : Nat} (h : n ≤ 6) : cost n n ≤ 100000 := by
  rcases Nat.lt_or_ge n 1 with h0 | h0
  · have : n = 0 := by omega
    subst this; decide
  · have : n = 1 ∨ n = 2 ∨ n = 3 ∨ n = 4 ∨ n = 5 ∨ n = 6 := by omega
    rcases this with rfl | rfl | rfl | rfl | rfl | rfl <;> decide
theorem ok_count {C f : Addr} {fd : FuncData} (T : WaysK K mg C) (me : Meth K C "count" f) (F : C8.Fun K "count" "Ways.count" (inClass (top 20) 4) f fd) (b : Binds K fd (nCount.take 1) []) (cEnds : ∀ m : Nat, Met P w K mg base (m + 1) C "ends_behind" (spEnds K C m) []) :
    Met P w K mg base 8 C "count" (spCount K C) [] := by
  refine met0 T.cl me F b scCount (fun vs H Q E h => ?_) (fun cdv A outer s H vs Q E hr h => ?_)
  · obtain ⟨p, d, n, rows, rfl, _⟩ := h
    rfl
  · obtain ⟨p, d, n, rows, rfl, hW, hd, hn, hrl, hR, k⟩ := h
    refine ⟨_, pss_one (ps_ret (pe_mt (cEnds n) hr (by omega) (pv 0) (pa_cons (pe_tup pa_nil) pa_nil))), ?_⟩
    obtain ⟨dx, l, st, hp, hl⟩ := id hW
    refine ⟨_, rfl, p, dx, _, rfl, hp, wf_behind _ _ _ _, Nat.zero_le _, fun q hq => ?_⟩
    have sq := same_new (o := .tup []) hq
    have hc := cost_small hn
    have hM : Memo rows n [] := fun s v e => by
      have e' : (none : Option V) = some v := e
      cases e'
    exact ⟨p, q, d, n, rows, [], [], rfl, hW.same sq, sq _ _ hd, hM, upd_same, Nat.zero_add n, hn, hrl, hR, fun _ h => absurd h List.not_mem_nil, by show 0 + cost n n ≤ 1000000; omega, fun H2 kvs2 hb _ _ _ => k H2 fun z o nz e => hb z o nz (sq _ _ e)⟩
/-! ways_of -/
abbrev nWaysOf : List Str := ["book"]
theorem scWaysOf : FnScope nWaysOf (nWaysOf.take 1) (fnScope (top 21)) := fnScope_by (by decide +kernel)
def spWaysOf (K : PySem.W.Frag) (CB CW : Addr) : Sp := fun vs H Q _ => ∃ (p : Addr) (ws : List (List Nat)) (rows : List Row), vs = [.ref p] ∧ BookAt CB H p ws rows ∧
  ∀ (H' : Hp) (q d : Addr), Same H H' → H d = none → H' d = some (.dT []) → WaysAt K CW H' q rows ws.length d → Q (.ref q) H'
theorem ok_waysOf {CB CW f : Addr} {fd : FuncData} (TB : BookK K mg CB) (F : Def K mg "ways_of" (top 21) f fd) (b : Binds K fd (nWaysOf.take 1) []) (cMak : Mak P w K mg base 1 "Ways" CW (spWInit K CW) []) (mL : mg "len" = none) :
    Cal P w K mg base 3 "ways_of" (spWaysOf K CB CW) [] := by
  refine cal0 F b .nil scWaysOf (fun vs H Q E h => ?_) (fun cdv A outer s H vs Q E hr h => ?_)
  · obtain ⟨p, ws, rows, rfl, _⟩ := h
    rfl
  · obtain ⟨p, ws, rows, rfl, ⟨dx, a, c, hp, ha, hc⟩, k⟩ := h
    refine ⟨_, pss_one (ps_ret (pe_mk cMak hr (by decide) (by rfl) (pa_cons (pe_fld (pv 0) rfl) (pa_cons (pe_callB call_len_seq (by rfl) mL PySem.boot_len (pa_cons (pe_fld (pv 0) rfl) pa_nil)) pa_nil)))), ?_⟩
    refine ⟨_, rfl, p, CB, dx, _, _, rfl, hp, TB.ins.cl, TB.nL, bf_lines _ _ _, _, rfl, p, CB, dx, _, _, rfl, hp, TB.ins.cl, TB.nR, bf_rules _ _ _, a, _, rfl, .inr (SqT.of ha), fun x dy hx hdy nxy => ?_⟩
    have s1 : Same H (upd (upd H dy (.own x)) x (.ins CW dy [])) := fun z o e => by
      rw [upd_ne (ne_of_none e hx), upd_ne (ne_of_none e hdy)]
      exact e
    refine ⟨x, dy, c, ws.length, rows, ?_, upd_same, SqT.of (s1 _ _ hc), fun H' d hb hd0 hd hW => ⟨rfl, ?_⟩⟩
    · rw [List.length_map]
      rfl
    · refine k H' x d (fun z o e => hb _ _ (ne_of_none e hx) (s1 _ _ e)) (s1.free hd0) hd hW
/-! certify_count -/
abbrev nCert : List Str := ["book"]
theorem scCert : FnScope nCert (nCert.take 1) (fnScope (top 23)) := fnScope_by (by decide +kernel)
def spCert (CB : Addr) : Sp := fun vs H Q _ => ∃ (p : Addr) (ws : List (List Nat)) (rows : List Row), vs = [.ref p] ∧ BookAt CB H p ws rows ∧ GoodB ws rows ∧
  ∀ (H' : Hp) (q t : Addr), Same H H' → H' q = some (.tup [.ref t, .non]) → H' t = some (.tup [.str "count", strV (said ws rows), nV (G rows ws.length ws.length [])]) → Q (.ref q) H'
theorem ok_cert {CB CW f pt gt : Addr} {fd ft : FuncData} (TB : BookK K mg CB) (F : Def K mg "certify_count" (top 23) f fd) (b : Binds K fd (nCert.take 1) []) (cCheck : Cal P w K mg base 1 "check_book" (spCheck CB) []) (cOf : Cal P w K mg base 3 "ways_of" (spWaysOf K CB CW) [])
    (cCount : Met P w K mg base 8 CW "count" (spCount K CW) []) (hp : PropOf K CB "text" pt gt) (FT : FnOk P w K mg base C8.CX0 1 gt ft (nText.take 1) (spText CB)) (bT : Binds K ft (nText.take 1) []) : FnOk P w K mg base C8.CX0 9 f fd (nCert.take 1) (spCert CB) := by
  refine fn0 F.fn scCert (fun vs H Q E h => ?_) (fun cdv A outer s H vs Q E hr h => ?_)
  · obtain ⟨p, ws, rows, rfl, _⟩ := h
    rfl
  · obtain ⟨p, ws, rows, rfl, hB, g, k⟩ := h
    refine ⟨_, pss_cons (ps_expr (pe_c cCheck hr (by decide) (by rfl) (pa_cons (pv 0) pa_nil)))
      (pss_one (ps_ret (pe_tup (pa_cons (pe_tup (pa_cons pe_str (pa_cons (pe_prop (E := C8.E0) (pv 0) TB.ins.cl hp FT (hr.mono (by decide)) bT .nil (fun _ _ _ _ _ _ _ z => z.elim) (by rfl))
        (pa_cons (pe_mt0 cCount hr (by decide) (pe_c cOf hr (by decide) (by rfl) (pa_cons (pv 0) pa_nil))) pa_nil)))) (pa_cons pe_non pa_nil))))), ?_⟩
    obtain ⟨dx, a, c, hp, ha, hc⟩ := id hB
    refine ⟨_, rfl, p, dx, _, rfl, hp, ?_⟩
    refine ⟨_, rfl, p, dx, _, rfl, hp, p, dx, _, _, rfl, hp, bf_written _ _ _, ?_⟩
    refine ⟨_, rfl, p, ws, rows, rfl, hB, fun H1 q d s1 hd0 hd hW => ?_⟩
    obtain ⟨dy, l, st, hq, hl⟩ := id hW
    refine ⟨q, dy, _, rfl, hq, wf_count _ _ _ _, q, d, ws.length, rows, rfl, hW, hd, g.h2, by have := g.hr; omega, g.ok, fun H2 hb => ?_⟩
    have s2 : Same H H2 := fun z o e => hb _ _ (ne_of_none e hd0) (s1 _ _ e)
    refine ⟨by show 3 ≤ sizeLine; decide, fun t ht => ⟨by show 2 ≤ sizeLine; decide, fun u hu => ?_⟩⟩
    have s3 := same_new (o := .tup [.str "count", strV (said ws rows), nV (G rows ws.length ws.length [])]) ht
    have s4 := same_new (o := .tup [.ref t, .non]) hu
    exact k _ u t ((s2.trans s3).trans s4) upd_same (s4 _ _ upd_same)
end
end RK
set_option Elab.async false
set_option linter.all false
set_option maxRecDepth 100000
namespace RK
open PySem PySem.Spec PyProof.Rows L2 C8
open SX (S)
section
variable {P : Program} {w : World} {K : PySem.W.Frag} {mg : Str → Option Value} {base : Heap}
/-! calls by one keyword, calls of what an expression gives -/
section
variable {X : Cx}
theorem pe_kw1 {k : Nat} {f : Addr} {fd : FuncData} {sp : Sp} {x y : Str} {p pos kp : Pos} {e : Expr} {te : TE} (F : FnOk X.prog X.w X.K X.mg X.base C8.CX0 k f fd [y] sp) (hr : Room k X.A) (hg : Gl X x) (hm : X.mg x = some (.ref f)) (hk : PySem.W.keepIn X.K (.ref f) = true)
    (hb : ∀ (s : Shared) (v : Value), BindsTo s fd ⟨[], [(y, v)]⟩ [(y, v)]) (he : PE X e te)
    (h1 : (backToKw pos (keywordEach [⟨some y, e, kp⟩] X.env)).all (·.1.isSome) = true := by rfl) (h2 : (backToKw pos (keywordEach [⟨some y, e, kp⟩] X.env)).filterMap (·.1) = [y] := by rfl) (hdb : (x == ("__debug__" : Str)) = false := by decide)
    (h3 : ((backTo pos (starEach [] X.env)).any (·.1) || (backToKw pos (keywordEach [⟨some y, e, kp⟩] X.env)).any (·.1.isNone)) = false := by rfl) :
    PE X (.Call (.Name x p) [] [⟨some y, e, kp⟩] pos) (fun σ H Q => te σ H fun v H1 => sp [v] H1 Q C8.E0) := by
  constructor
  intro pins s σ H Q I h
  have kw : PK X [⟨some y, e, kp⟩] (tCons te tNil) := pk_cons he pk_nil
  refine wpAny_Call_Name_kw (ld_glob I hg hm (PySem.W.callWith_KW0 (h₀ := X.base) I.ok.mod.kin hk h1 (thn (kw.run pos pins s σ H (fun vs H1 => match vs with | [v] => sp [v] H1 Q C8.E0 | _ => False) I h) ?_) h3) hdb)
  rintro ws s2 ⟨zs, H2, I2, rz, q⟩
  rw [h2]
  match zs, rz, q with
  | [v], .cons (b := u) r .nil, q =>
    refine ⟨I2.kIn, wpAny_call (codeAny_mono (F.run X.A X.stack s2 H2 ⟨[], [(y, u)]⟩ [u] [v] Q C8.E0 hr I2.env0 (hb s2 u) (.cons r .nil) q) ?_)⟩
    intro res s' hq
    match res, hq with
    | .ok (.ret w'), hq => exact I2.after hq
    | .ok .next, hq => exact False.elim hq
    | .ok .brk, hq => exact False.elim hq
    | .ok .cont, hq => exact False.elim hq
    | .error er, hq => exact False.elim hq
theorem pe_callE {k : Nat} {f : Addr} {fd : FuncData} {ps : List Str} {sp : Sp} {pos : Pos} {fe e : Expr} {es : List Expr} {tf : TE} {t : TA} (F : FnOk X.prog X.w X.K X.mg X.base C8.CX0 k f fd ps sp) (hr : Room k X.A) (hk : PySem.W.keepIn X.K (.ref f) = true) (hb : Binds X.K fd ps [])
    (hf : PE X fe tf) (ha : PA X (e :: es) t) (ht : eval (.Call fe (e :: es) [] pos) X.env = (do callWith pos (← eval fe X.env) [] (backTo pos (starEach (e :: es) X.env)) (backToKw pos (keywordEach [] X.env))) := by rfl)
    (he : starEach (e :: es) X.env = (false, eval e X.env) :: starEach es X.env := by rfl) (hpl : (backTo pos (starEach es X.env)).any (·.1) = false := by rfl) :
    PE X (.Call fe (e :: es) [] pos) (fun σ H Q => tf σ H fun y H1 => y = .ref f ∧ t σ H1 fun vs H2 => sp vs H2 Q C8.E0) := by
  constructor
  intro pins s σ H Q I h
  refine Call_ (thn (hf.run pins s σ H _ I h) ?_) ht
  rintro u s1 ⟨y, H1, I1, ry, ey, q⟩
  subst ey
  have eu : u = Value.ref f := ry
  subst eu
  refine PySem.W.callWith_K (h₀ := X.base) I1.ok.mod.kin hk (thn (ha.run pos pins s1 σ H1 _ I1 q) ?_) he hpl
  rintro us s2 ⟨vs, H2, I2, r, q2⟩
  exact ⟨I2.kIn, run_fn F hr hb .nil (fun _ _ _ _ _ _ _ z => z.elim) I2 r (by rw [List.append_nil]; exact q2)⟩
end
end
end RK
set_option Elab.async false
set_option linter.all false
set_option maxRecDepth 100000
namespace RK
open PySem PySem.Spec PyProof.Rows L2 C8
open SX (S)
section
variable {P : Program} {w : World} {K : PySem.W.Frag} {mg : Str → Option Value} {base : Heap}
/-! sets of texts, all unlike, and their sorted list -/
open PySem.Froz (SD sObj TxOk addTx add_ok add_x tailTx get_upd upd_const) in
section
variable {w0 : World} {pr : Program}
/-- the payload D holds the texts xs and can be walked -/
structure TxIn (pr : Program) (w0 : World) (D : SD) (xs : List Str) : Prop where
  ok : TxOk pr w0 D xs
  tx : ∀ e ∈ D.1.toList, ∃ x t, e.2 = Value.str x t
  pm : (D.1.toList.map fun e => strOf e.2).Perm xs
  ris : Ris D.2.2.place.toList
  led : w0.params.followText "set-order" = true ∨ D.2.2.led = true
theorem TxIn.start (b : Bool) (hb : b = !w0.params.followText "set-order") : TxIn pr w0 (#[], 0, .fresh 0 0 b) [] where
  ok := TxOk.nil (by rfl)
  tx := fun e he => nomatch he
  pm := .nil
  ris := List.Pairwise.nil
  led := by
    subst hb
    show _ ∨ (!w0.params.followText "set-order") = true
    cases w0.params.followText "set-order" <;> simp
theorem TxIn.tail {D : SD} {ep : Nat} {es : Array (Int × Value)} {t : SetTable} {b : Bool} {xs : List Str} (ok : TxOk pr w0 (tailTx ep es t b) xs) (st : ∀ e ∈ es.toList, ∃ x t, e.2 = Value.str x t)
    (pm : (es.toList.map fun e => strOf e.2).Perm xs) (r : Ris t.place.toList) (l : w0.params.followText "set-order" = true ∨ t.led = true) : TxIn pr w0 (tailTx ep es t b) xs := by
  unfold tailTx at ok ⊢
  split at ok
  · rename_i c
    rw [if_pos c]
    have q := relayAll_perm t es (SetTable.grown es.size)
    exact ⟨ok, fun e he => st e (q.mem_iff.mp he), (q.map _).trans pm, relayAll_ris t es _, l.imp id fun z => (relayAll_led t es _).trans z⟩
  · rename_i c
    rw [if_neg c]
    exact ⟨ok, st, pm, r, l⟩
theorem TxIn.more {D : SD} {xs : List Str} {x : Str} {t : Tok} (F : TxIn pr w0 D xs) : TxIn pr w0 (addTx (hashStr w0 x) (.str x t) D) (x :: xs) := by
  obtain ⟨es, ep, tb⟩ := D
  have ok : TxOk pr w0 (addTx (hashStr w0 x) (.str x t) (es, ep, tb)) (x :: xs) := add_ok t F.ok
  have q := layNew_perm tb es (hashStr w0 x) (.str x t)
  rw [Array.toList_push] at q
  have rr := layNew_ris tb es (hashStr w0 x) (.str x t) F.ris
  have ll := layNew_led tb es (hashStr w0 x) (.str x t)
  refine TxIn.tail (D := (es, ep, tb)) ok (fun e he => ?_) ?_ ?_ ?_
  · rcases List.mem_append.mp (q.mem_iff.mp he) with z | z
    · exact F.tx e z
    · rw [List.mem_singleton.mp z]
      exact ⟨x, t, rfl⟩
  · refine (q.map _).trans ?_
    rw [List.map_append]
    exact List.perm_append_comm.trans (List.Perm.cons _ F.pm)
  · dsimp only
    split <;> exact rr
  · dsimp only
    have z := F.led.imp id fun (z : tb.led = true) => ll.trans z
    split <;> exact z
section
variable {A : Around} {E : Value → Shared → Prop} {s : Shared}
/-- set.update's loop over texts that are all unlike -/
theorem upd_texts {I : Addr} {fp wr : List Addr} {G : Array GenState → Array GenState → Prop} {n : Nat} {Pv : Nat → Value → Prop} {Q0 : Nat → Shared → Prop} {R : Result → Shared → Prop}
    (W : WalksS pr w0 A.in1 I fp wr G n Pv Q0) (z : Addr) (zf : z ∉ fp) (xs : List Str) (hn : n = xs.length) (nd : xs.Nodup) (few : xs.length + 1 < scanBound)
    (at_ : ∀ i v, Pv i v → ∃ x t, xs[i]? = some x ∧ v = .str x t) :
    ∀ (d i : Nat) (s : Shared) (D : SD), n - i = d → i ≤ n → Q0 i s → s.heap.get? z = some (sObj "set" D) → TxIn pr w0 D (xs.take i).reverse →
      (∀ s' D', Moved (z :: wr) G s s' → s'.heap.get? z = some (sObj "set" D') → TxIn pr w0 D' xs.reverse → R (.ok (.ret .none)) s') →
      codeAny (model pr w0) A (.builtin "set.update.loop" ⟨[.ref z, .ref I], []⟩) R s := by
  have zw : z ∉ wr := fun h => zf (W.sub _ h)
  have up : ∀ b ∈ wr, b ∈ z :: wr := fun b h => .tail _ h
  intro d
  induction d with
  | zero =>
    intro i s D hd hi st ho F fin
    obtain rfl : i = n := by omega
    refine codeAny_builtin PyProof.Rows.F.entry_set_update_loop ?_
    rw [Around.under_plainId PyProof.Rows.F.plain_set_update_loop ⟨[.ref z, .ref I], []⟩]
    refine wpAny_bind (m := pyNext (.ref I)) (W.done s _ _ st fun s' mv => ?_)
    refine wpAny_pure (fin s' D (mv.mono up) (mv.heap z _ zw ho) ?_)
    rw [List.take_of_length_le (Nat.le_of_eq hn.symm)] at F
    exact F
  | succ d ih =>
    intro i s D hd hi st ho F fin
    have lt : i < n := by omega
    refine codeAny_builtin PyProof.Rows.F.entry_set_update_loop ?_
    rw [Around.under_plainId PyProof.Rows.F.plain_set_update_loop ⟨[.ref z, .ref I], []⟩]
    refine wpAny_bind (m := pyNext (.ref I)) (W.item i s _ _ lt st fun v s1 hv st1 mv => ?_)
    obtain ⟨x, t, hx, rfl⟩ := at_ i v hv
    have ho1 := mv.heap z _ zw ho
    obtain ⟨hix, ex⟩ := List.getElem?_eq_some_iff.mp hx
    have new : x ∉ (xs.take i).reverse := fun m => by
      obtain ⟨j, hj⟩ := List.mem_iff_getElem?.mp (List.mem_reverse.mp m)
      obtain ⟨hj1, hj2⟩ := List.getElem?_eq_some_iff.mp hj
      rw [List.length_take] at hj1
      rw [List.getElem_take] at hj2
      have := (List.nodup_iff_pairwise_ne.mp nd |> List.pairwise_iff_getElem.mp) j i (by omega) hix (by omega)
      exact this (hj2.trans ex.symm)
    show wpAny _ A.in1 (holding [Value.str x t] (setAdd z (.str x t)) >>= fun _ => _) _ _ s1
    refine wpAny_bind (wpAny_holding ?_)
    unfold setAdd
    refine wpAny_holding (wpAny_bind (PySem.KeyKind.pyHash (PySem.strKind pr w0) (strKind_is pr w0 x t) ?_))
    refine add_x (P := pr) (T := "set") (D := D) (l := (xs.take i).reverse) (s := { s1 with toks := s1.toks + 1 }) ho1 F.ok new (by
      rw [List.length_reverse, List.length_take]; omega) ?_
    have F2 : TxIn pr w0 (addTx (hashStr w0 x) (.str x t) D) (xs.take (i + 1)).reverse := by
      rw [List.take_add_one, hx]
      simpa using F.more (x := x) (t := t)
    refine wpAny_pure ⟨plainId_quiet PyProof.Rows.F.plain_set_update_loop ⟨[.ref z, .ref I], []⟩, ih (i + 1) _ _ (by omega) lt (W.frame (i + 1) s1 _ (s1.toks + 1) st1 (Nat.le_succ _) fun b hb o e => ?_) (get_upd _ ho1 rfl) F2 fun s2 D2 mv2 ho2 F3 => ?_⟩
    · exact PySem.Heap.get?_update_of_ne _ (fun q => zf (q ▸ hb)) e
    · refine fin s2 D2 (Moved.trans W.gtrans ((mv.mono up).then_heap (tk := s1.toks + 1) (Nat.le_succ _) fun b o hb e => ?_) mv2) ho2 F3
      exact PySem.Heap.get?_update_of_ne _ (fun q => hb (q ▸ .head _)) e
end
end
end
end RK
set_option Elab.async false
set_option linter.all false
set_option maxRecDepth 100000
namespace RK
open PySem PySem.Spec PyProof.Rows L2 C8
open SX (S)
section
variable {P : Program} {w : World} {K : PySem.W.Frag} {mg : Str → Option Value} {base : Heap}
open PySem.Froz (SD sObj TxOk addTx add_ok add_x tailTx get_upd upd_const)
section
variable {w0 : World} {pr : Program} {A : Around} {E : Value → Shared → Prop} {s : Shared}
/-- what a new set is laid with -/
abbrev newSet (w0 : World) : Obj := sObj "set" (#[], 0, .fresh 0 0 (!w0.params.followText "set-order"))
set_option maxHeartbeats 4000000 in
/-- set(l) of a list of texts, all unlike -/
theorem call_set_texts {l : Addr} {us : List Value} {xs : List Str} {Q : Value → Shared → Prop} (calm : A.handled = none) (hl : s.heap.IsList l us.toArray) (ho : StrsAre us xs) (nd : xs.Nodup) (few : xs.length + 1 < scanBound)
    (fin : ∀ (h1 : Heap) (k1 : Nat) (D : SD), h1.get? s.heap.objs.size = some (sObj "set" D) → TxIn pr w0 D xs.reverse → (∀ b o, s.heap.get? b = some o → h1.get? b = some o) → Q (.ref s.heap.objs.size) { s with heap := h1, toks := k1 }) :
    wpAny (model pr w0) A (call (.type "set") [.ref l]) Q E s := by
  have lu : us.length = xs.length := StrsAre.length ho
  obtain ⟨cm, rm, hmro⟩ := PySem.F.called_set.mro
  have f1 := PySem.F.called_set.made
  have f2 := PySem.F.called_set.sub
  have f3 := PySem.F.called_set.notType
  have f4 := PySem.F.called_set.canCreate
  have f5 := PySem.F.typeCall_set_1 (.ref l)
  refine wpAny_call (codeAny_of_tree (show wpAny _ _ (callAny (.type "set") _) _ _ _ from ?_))
  refine wpAny_pure ⟨Code.quiet_builtin _ (by decide +kernel), codeAny_builtin (PySem.F.entry_type_call) ?_⟩
  rw [Around.under_plain (weight_type_call_type "set" [.ref l] ([] : List (Str × Value))) rfl]
  repeat (any_goals (first | assumption | wp_step))
  refine codeAny_mono (code_set_led1 (P := pr) (w := w0) (.ref l) (E := E) (Q₁ := fun v s1 => v = .ref s.heap.objs.size ∧ s1 = { s with heap := s.heap.push (newSet w0) }) ⟨rfl, rfl⟩) fun r s1 hr => ?_
  match r, hr with
  | .error e, hr => exact hr
  | .ok (.ret v), ⟨ev, es⟩ =>
    subst ev; subst es
    have got : (s.heap.push (newSet w0)).get? s.heap.objs.size = some (newSet w0) := Heap.get?_push_size _ rfl
    have ty : Shared.TypeIs { s with heap := s.heap.push (newSet w0) } (.ref s.heap.objs.size) "set" := ⟨_, got, rfl⟩
    have g1 := PySem.F.called_set.init.lookup
    have g2 := PySem.F.called_set.init.bind (.ref s.heap.objs.size)
    repeat (any_goals (first | assumption | wp_step))
    refine codeAny_mono (codeAny_call_builtin (R := wants (fun v s2 => v = .none ∧ ∃ h1 k1 D, s2 = { s with heap := h1, toks := k1 } ∧ h1.get? s.heap.objs.size = some (sObj "set" D) ∧ TxIn pr w0 D xs.reverse ∧
        ∀ b o, s.heap.get? b = some o → h1.get? b = some o) E) PySem.F.called_set.init.plain PySem.F.entry_set_init (check_set_init_1 ty ?loop)) fun r2 s2 hr2 => ?_
    case loop =>
      have ll : l < s.heap.objs.size := let ⟨_, q, _⟩ := hl; Heap.lt_size q
      have hl1 : (s.heap.push (newSet w0)).IsList l us.toArray := hl.push _
      have t1 : Shared.TypeIs { s with heap := s.heap.push (newSet w0) } (.ref l) "list" := let ⟨o, q, c, _⟩ := hl1; ⟨o, q, c⟩
      have sz1 : (s.heap.push (newSet w0)).objs.size = s.heap.objs.size + 1 := Heap.size_push ..
      have u1 := PySem.F.sub_list_set
      have u2 := PySem.F.sub_list_frozenset
      have u3 : (Value.type "list" == Value.type "dict") = false := by decide
      unfold Builtin.«set.__init__» noKeywords Builtin.Frozenset.updateFrom
      generalize hI : pyIter = nextOf
      wp_walk
      subst hI
      refine wpAny_pyIter_list hl1 (wpAny_bind (wpAny_runValue ?_))
      have calm3 : A.in1.in1.in1.handled = none := by simp [calm]
      refine upd_texts (xs := xs) (Walks.list calm3 (s.heap.push (newSet w0)).objs.size l (by rw [sz1]; exact Nat.ne_of_lt (Nat.lt_succ_of_lt ll)) us.toArray).toS s.heap.objs.size (fun m => ?_) (by simpa using lu) nd few (fun i v hv => ?_) (us.toArray.size - 0) 0 _ (#[], 0, .fresh 0 0 (!w0.params.followText "set-order")) rfl (Nat.zero_le _)
        ⟨⟨_, Heap.get?_push_size _ rfl, rfl, rfl⟩, hl1.push _⟩ (Heap.get?_push_of_some _ got) (TxIn.start _ rfl) fun s3 D mv ho3 F3 => ?_
      · rcases List.mem_cons.mp m with q | q
        · rw [sz1] at q; exact absurd q (Nat.ne_of_lt (Nat.lt_succ_self _))
        · exact absurd (List.mem_singleton.mp q) (Nat.ne_of_gt ll)
      · obtain ⟨t, e⟩ := SS.strs_at ho i v (by simpa using hv)
        refine ⟨_, t, ?_, e⟩
        have hi : i < us.length := (List.getElem?_eq_some_iff.mp (show us[i]? = some v by simpa using hv)).1
        rw [List.getD_eq_getElem?_getD, List.getElem?_eq_getElem (by omega)]
        rfl
      · obtain ⟨h3, g3, d3, k3, o3⟩ := s3
        obtain rfl : g3 = s.gens := mv.gens
        obtain rfl : d3 = s.drawn := mv.drawn
        obtain rfl : o3 = s.os := mv.os
        refine wpAny_pure (show wpAny _ _ (ret Value.none) _ _ _ from wpAny_pure ⟨rfl, h3, k3, D, rfl, ho3, F3, fun b o e => mv.heap b o (fun m => ?_) (Heap.get?_push_of_some _ (Heap.get?_push_of_some _ e))⟩)
        have bl := Heap.lt_size e
        rcases List.mem_cons.mp m with q | q
        · exact absurd q (Nat.ne_of_lt bl)
        · have w := List.mem_singleton.mp q
          rw [sz1] at w; exact absurd w (Nat.ne_of_lt (Nat.lt_succ_of_lt bl))
    match r2, hr2 with
    | .error e, hr2 => exact hr2
    | .ok (.ret v), ⟨ev, h1, k1, D, es, a1, a2, a3⟩ =>
      subst ev; subst es
      repeat (any_goals (first | assumption | wp_step))
      exact fin h1 k1 D a1 a2 a3
    | .ok .next, hr2 | .ok .brk, hr2 | .ok .cont, hr2 => exact hr2.elim
  | .ok .next, hr | .ok .brk, hr | .ok .cont, hr => exact hr.elim
set_option maxHeartbeats 1000000 in
/-- sorted(set) -/
theorem sorted_texts {a : Addr} {D : SD} {xs : List Str} {Q : Value → Shared → Prop} (ho : s.heap.get? a = some (sObj "set" D)) (F : TxIn pr w0 D xs) (calm : A.handled = none) (few : xs.length < scanBound)
    (fin : ∀ s1 p (out : Array Value) (c : Nat) (ys : List Str), (∀ b o, s.heap.get? b = some o → s1.heap.get? b = some o) → s1.gens = s.gens → s1.os = s.os → s.heap.objs.size ≤ p → s1.heap.get? p = some (seqObj "list" out c) → StrsAre out.toList ys →
      ys.Perm xs → sortedS ys = true → Q (.ref p) s1) : wpAny (model pr w0) A (call (.builtin "sorted") [.ref a]) Q E s := by
  obtain ⟨es, ep, t⟩ := D
  have sz : es.size = xs.length := F.ok.sz
  have hb : es.size < scanBound := by rw [sz]; exact few
  have line : es.size ≤ sizeLine := fits_of_scanBound hb
  have fit : t.fits es.size = true := F.ok.fit
  have rr : Ris t.place.toList := F.ris
  have ll : w0.params.followText "set-order" = true ∨ t.led = true := F.led
  refine Calls.call_function_entry kind_sorted plain_sorted entry_sorted (args_sorted1 _) (show wpAny _ _ (Builtin.«sorted» _) _ _ _ from ?_)
  unfold Builtin.«sorted»
  refine wpAny_bind (m := checkCount "sorted" 1 1 _) (wpAny_pure ?_)
  refine wpAny_bind (m := collect (.ref a)) (collect_set (A := A.in1) (P := pr) calm ⟨_, ho, rfl, rfl⟩ fit hb rr ll fun s1 vs k1 z1 g1 o1 pm => ?_)
  have lv : vs.length = es.size := by rw [pm.length_eq, List.length_map, Array.length_toList]
  have sv : ∀ v, v ∈ vs → ∃ x t, v = .str x t := fun v hv => by
    obtain ⟨e, he, rfl⟩ := List.mem_map.mp (pm.mem_iff.mp hv)
    exact F.tx e he
  have ht := strsAre_map vs sv
  have pv : (vs.map strOf).Perm xs := (pm.map strOf).trans (by rw [List.map_map]; exact F.pm)
  refine wpAny_bind (wpAny_newList ?_ (by omega))
  have hL : (s1.heap.push (seqObj "list" vs.toArray 0)).get? s1.heap.objs.size = some (seqObj "list" vs.toArray 0) := Heap.get?_push_size _ rfl
  refine wpAny_bind (wpAny_holding (wpAny_call_entry slot_list_sort ⟨_, hL, rfl⟩ entry_list_sort (list_sort_treeKAny strKind_oneLt hL ht.keysOf (fun a b r e => keyKind_strs (by rw [← e]; exact ht)) (by omega) fun st q1 q2 => ⟨_, rfl, ?_⟩) (args_list_sort _)))
  obtain ⟨ys, y1, y2, y3⟩ := sorted_out_str ht q1 q2
  obtain ⟨c, hc⟩ := sortedHeap_at (vs := vs) (out := (arrOf st).map (·.2)) hL
  refine wpAny_pure ⟨_, rfl, fin _ s1.heap.objs.size _ c ys (fun b o e => ?_) g1 o1 z1 hc y1 (y2.trans pv) y3⟩
  have q := k1 b o e
  have lt := Heap.lt_size q
  refine (sortedHeap_old (Nat.ne_of_lt lt) (by rw [size_push']; first | exact Nat.lt_succ_of_lt lt | exact Nat.ne_of_lt (Nat.lt_succ_of_lt lt))).trans ?_
  exact Heap.get?_push_of_some _ q
end
/-- a set of texts in the heap -/
def SetTx (pr : Program) (w0 : World) (a : Addr) (xs : List Str) : HO := .ext fun h => ∃ D, h.get? a = some (sObj "set" D) ∧ TxIn pr w0 D xs
/-- set(l), sorted(z) -/
def rSetTx (K : PySem.W.Frag) (P : Program) (w : World) : List V → Hp → VK → Prop := fun vs H Q => ∃ (l : Addr) (xs : List Str), vs = [V.ref l] ∧ SqL K H l (xs.map V.str) ∧ xs.Nodup ∧ xs.length + 1 < scanBound ∧
  ∀ a, H a = none → Q (.ref a) (upd H a (SetTx P w a xs.reverse))
def rSortTx (P : Program) (w : World) : List V → Hp → VK → Prop := fun vs H Q => ∃ (a : Addr) (xs : List Str), vs = [V.ref a] ∧ H a = some (SetTx P w a xs) ∧ xs.length < scanBound ∧
  ∀ (ys : List Str) (p : Addr), ys.Perm xs → sortedS ys = true → H p = none → Q (.ref p) (upd H p (.lst (ys.map V.str)))
section
variable {X : Cx}
theorem cr_setTx (hc : X.calm = true) : CallR X (.type "set") (rSetTx X.K X.prog X.w) := by
  intro pins s σ H vs us Q I r ⟨l, xs, e, hl, nd, few, fin⟩
  subst e
  rw [Vals.ref1 r]
  obtain ⟨its, rv, pl, hz⟩ := I.list hl
  refine call_set_texts (pr := X.prog) (w0 := X.w) (xs := xs) (I.ok.hd hc) pl.isList (by simpa using Vals.strs rv) nd few fun h1 k1 D ho F k => ?_
  exact ⟨.ref s.heap.objs.size, upd H s.heap.objs.size (SetTx X.prog X.w s.heap.objs.size xs.reverse), I.laid (t' := k1) k (Nat.le_refl _) (show ObjOk _ _ _ _ _ (SetTx X.prog X.w s.heap.objs.size xs.reverse) from ⟨⟨D, ho, F⟩, ⟨_, ho⟩, fun h1 h2 ⟨D', q, F'⟩ kk => ⟨D', kk _ q, F'⟩⟩), rfl, fin _ (I.hok.fresh (Nat.le_refl _))⟩
theorem cr_sortTx (hc : X.calm = true) : CallR X (.builtin "sorted") (rSortTx X.prog X.w) := by
  intro pins s σ H vs us Q I r ⟨a, xs, e, ha, few, fin⟩
  subst e
  rw [Vals.ref1 r]
  obtain ⟨D, ho, F⟩ := (I.hok a _ ha).1
  refine sorted_texts ho F (I.ok.hd hc) few fun s1 p out c ys k g o hp hg ht pm so => ?_
  have ly : (ys.map V.str).length ≤ sizeLine := by
    rw [List.length_map, pm.length_eq]; exact fits_of_scanBound few
  have none_ : H p = none := I.hok.fresh hp
  have J : Inv X pins σ (upd H p (.lst (ys.map V.str))) { s with heap := s1.heap, gens := s1.gens, drawn := s1.drawn, toks := s1.toks } :=
    I.call (ch := []) (Un.laid k hp none_) (I.hok.laid k hp ⟨ly, out.toList, c, vals_of_strs ht, hg⟩) (by rw [g]; exact I.bare) fun _ z => nomatch z
  have e : s1 = { s with heap := s1.heap, gens := s1.gens, drawn := s1.drawn, toks := s1.toks } := by
    rw [← o]
  rw [e]
  exact ⟨.ref p, _, J, rfl, fin ys p pm so none_⟩
end
end
end RK
set_option Elab.async false
set_option linter.all false
set_option maxRecDepth 100000
namespace RK
open PySem PySem.Spec PyProof.Rows L2 C8
open SX (S)
section
variable {P : Program} {w : World} {K : PySem.W.Frag} {mg : Str → Option Value} {base : Heap}
/-! are_words -/
abbrev nAreW : List Str := ["values", "value"]
theorem scAreW : FnScope nAreW (nAreW.take 1) (fnScope (top 29)) := fnScope_by (by decide +kernel)
def spAreW (K : PySem.W.Frag) : Sp := fun vs H Q _ => ∃ (a : Addr) (ws : List (List Nat)), vs = [.ref a] ∧ SqL K H a (ws.map strV) ∧ ws.length ≤ 8 ∧ ws.Pairwise (· < ·) ∧ (∀ x ∈ ws, Lower x) ∧ ∀ H', Same H H' → Q (.bl true) H'
theorem strs_of (ws : List (List Nat)) : ws.map strV = (ws.map S).map V.str := by rw [List.map_map]; rfl
theorem tl_S (x : List Nat) : TL.tl (S x) = x := by
  have := tl_back [x]
  simpa using this
theorem nodup_S {ws : List (List Nat)} (h : ws.Nodup) : (ws.map S).Nodup := by
  refine List.Pairwise.map S (fun a b hab e => hab ?_) h
  exact SX.S_inj e
theorem sorted_back {ws : List (List Nat)} {ys : List Str} (h : ws.Pairwise (· < ·)) (p : ys.Perm (ws.map S).reverse) (so : sortedS ys = true) : ys = ws.map S := by
  have p1 : (ys.map TL.tl).Perm ws := by
    have := ((p.trans (List.reverse_perm _)).map TL.tl)
    rwa [tl_back] at this
  have n1 : (ys.map TL.tl).Nodup := p1.nodup_iff.mpr (pw_nodup h)
  have e1 : ys.map TL.tl = ws := pw_unique (sorted_pw (by rw [← sorted_S]; exact so) n1) h p1
  rw [← e1, List.map_map]
  refine (List.map_id ys).symm.trans (List.map_congr_left fun y _ => ?_)
  exact (SX.S_tl y).symm
theorem lower_ok {x : List Nat} (h : Lower x) : PyData.strOk (S x) = true := strOk_S fun c hc => by
  have := (letters_range c (h.2.2 c hc)).2
  omega
theorem eqv_strs {l : List Str} (h : ∀ x ∈ l, PyData.strOk x = true) : PyData.eqv (.list (l.map PyData.str)) (.list (l.map PyData.str)) = true := by
  exact SeqAt.eqv_refl _ (SeqAt.canLay_of_shaped (shaped_strs h))
theorem ok_areW {f : Addr} {fd : FuncData} (F : Def K mg "are_words" (top 29) f fd) (b : Binds K fd (nAreW.take 1) []) (cIs : Cal P w K mg base 1 "is_word" spLower []) (mAll : mg "all" = none) (mLi : mg "list" = none) (mS : mg "sorted" = none) (mSet : mg "set" = none) :
    Cal P w K mg base 2 "are_words" (spAreW K) [] := by
  refine cal0 F b .nil scAreW (fun vs H Q E h => ?_) (fun cdv A outer s H vs Q E hr h => ?_)
  · obtain ⟨a, ws, rfl, _⟩ := h
    rfl
  · obtain ⟨a, ws, rfl, hS, h2, hp, hw, k⟩ := h
    refine ⟨_, pss_one (ps_ret (pe_and (pe_callB (cr_all rfl) (by rfl) mAll (by decide +kernel) (pa_cons (pe_lc (own := [("value", 1)]) (g := gName 1) (tt := tYes) (by rfl) scAreW.nd (pi_list (pv 0))
        (blkOk_by (own := [("value", 1)]) (N := nAreW) (sc := fnScope (top 29)) (by decide +kernel)) (fun _ _ _ _ _ => pg_name (i := 1) scAreW.nd rfl (Or.inl rfl)) (fun _ _ _ _ _ => pts_nil)
        (fun _ _ _ _ _ => pe_c cIs hr (by decide) (by rfl) (pa_cons (pv 1) pa_nil))) pa_nil))
      (pe_one (pe_cmpR (op_eqD hr.units) (pe_callTy call_list_of (by rfl) mLi (by decide +kernel) (pa_cons (pv 0) pa_nil))
        (pe_callB (cr_sortTx rfl) (by rfl) mS (by decide +kernel) (pa_cons (pe_callTy (cr_setTx rfl) (by rfl) mSet (by decide +kernel) (pa_cons (pv 0) pa_nil)) pa_nil)) (nomark _))))), ?_⟩
    refine ⟨_, rfl, a, rfl, ⟨_, hS⟩, fun D hD => ?_⟩
    refine lc_list (K := K) (a := a) (xs := ws.map strV) (fun i H' => Acc D H (List.replicate i (V.bl true)) H') (acc_start hD) (fun i H' _ hA => Same.seq hA.sm hS) ?_ ?_
    · rintro i x H' hi hA
      obtain ⟨x1, hx1, rfl⟩ := map_at hi
      refine ⟨rfl, _, rfl, x1, rfl, hw x1 (List.mem_of_getElem? hx1), fun H2 s2 => rep_step hD hA s2 ?_⟩
      have := (List.getElem?_eq_some_iff.mp hx1).1
      omega
    · intro H' hA
      refine ⟨D, _, rfl, SqL.of hA.trues, ?_⟩
      rw [all_trues]
      refine ⟨true, rfl, iteT ⟨_, rfl, a, _, rfl, .inl (Same.seq hA.sm hS), fun l1 hl1 => ?_⟩⟩
      have s1 := hA.sm.trans (same_new (o := .lst (ws.map strV)) hl1)
      refine ⟨_, rfl, a, ws.map S, rfl, by rw [← strs_of]; exact Same.seq s1 hS, nodup_S (pw_nodup hp), by rw [List.length_map]; show _ < 4096; omega, fun z hz => ?_⟩
      have s2 := s1.trans (same_new (o := SetTx P w z (ws.map S).reverse) hz)
      refine ⟨z, _, rfl, upd_same, by rw [List.length_reverse, List.length_map]; show _ < 4096; omega, fun ys p hpm hso hpn => ?_⟩
      obtain rfl := sorted_back hp hpm hso
      have s3 := s2.trans (same_new (o := .lst ((ws.map S).map V.str)) hpn)
      have nlz : l1 ≠ z := ne_of_none (H := upd H' l1 (.lst (ws.map strV))) upd_same hz
      have nlp : l1 ≠ p := ne_of_none (H := upd (upd H' l1 (.lst (ws.map strV))) z (SetTx P w z (ws.map S).reverse)) (by rw [upd_ne nlz]; exact upd_same) hpn
      have ok1 : ∀ x ∈ ws.map S, PyData.strOk x = true := fun x hx => by
        obtain ⟨y, hy, rfl⟩ := List.mem_map.mp hx
        exact lower_ok (hw y hy)
      refine ⟨_, _, .lst (SqL.of (xs := ws.map strV) (by rw [upd_ne nlp, upd_ne nlz, upd_same])) (by rw [strs_of]; exact dp_strs _), .lst (SqL.of upd_same) (dp_strs _), shaped_strs ok1, shaped_strs ok1, ?_⟩
      rw [eqv_strs ok1]
      exact k _ s3
end
end RK
set_option Elab.async false
set_option linter.all false
set_option maxRecDepth 100000
namespace RK
open PySem PySem.Spec PyProof.Rows L2 C8
open SX (S)
section
variable {P : Program} {w : World} {K : PySem.W.Frag} {mg : Str → Option Value} {base : Heap}
/-! read_book -/
abbrev nRead : List Str := ["value", "head", "tail", "words", "lines", "line"]
theorem scRead : FnScope nRead (nRead.take 1) (fnScope (top 31)) := fnScope_by (by decide +kernel)
theorem ok_read {f : Addr} {fd : FuncData} (F : Def K mg "read_book" (top 31) f fd) (b : Binds K fd (nRead.take 1) []) (cW : Cal P w K mg base 2 "are_words" (spAreW K) []) (cL : Cal P w K mg base 1 "is_line" spIsRow [])
    (mIs : mg "isinstance" = none) (mStr : mg "str" = none) (mL : mg "len" = none) (mAll : mg "all" = none) (mT : mg "tuple" = none) (mR : ∃ u, mg "MOST_RULES" = some u ∧ RelV (.int 8) u) (mM : ∃ u, mg "MOST_ROWS" = some u ∧ RelV (.int 20) u) :
    Cal P w K mg base 3 "read_book" spBookIn [] := by
  refine cal0 F b .nil scRead (fun vs H Q E h => ?_) (fun cdv A outer s H vs Q E hr h => ?_)
  · obtain ⟨ws, rows, rfl, _⟩ := h
    rfl
  · obtain ⟨ws, rows, rfl, g, k⟩ := h
    refine ⟨_, pss_cons (ps_if (PW.pt (pw_or (pt_not (pt_val (pe_callB call_isi (by rfl) mIs (by decide +kernel) (pa_cons (pv 0) (pa_cons (pe_bltn (v := .ty "str") (by rfl) mStr (by decide +kernel) rfl) pa_nil)))))
          (pw_or1 (pt_cmpR op_ne (pe_m1 PySem.F.slot_str_count PySem.F.type_str_count mt_count (pv 0) pe_str) pe_int (nomark _))))) (pss_one (ps_ret pe_non)) pss_nil)
      (pss_cons (ps_asg (pe_split (pv 0) pe_str) (pg_unl (by rfl) (pgs_cons (pg_name (i := 1) scRead.nd rfl (Or.inl rfl)) (pgs_cons (pg_name (i := 2) scRead.nd rfl (Or.inl rfl)) pgs_nil))))
      (pss_cons (ps_asg (pe_tup (pa_cons (pe_split (pv 1) pe_str) (pa_cons (pe_split (pv 2) pe_str) pa_nil))) (pg_tup (by rfl) (pgs_cons (pg_name (i := 3) scRead.nd rfl (Or.inr rfl)) (pgs_cons (pg_name (i := 4) scRead.nd rfl (Or.inl rfl)) pgs_nil))))
      (pss_cons (ps_if (PW.pt (pw_or (pt_cmpR op_gt (pe_callB call_len_seq (by rfl) mL PySem.boot_len (pa_cons (pv 3) pa_nil)) (pe_gc (by rfl) mR) (nomark _))
          (pw_or (pt_not (pt_val (pe_c cW hr (by decide) (by rfl) (pa_cons (pv 3) pa_nil))))
          (pw_or (pt_cmpR op_ne (pe_ix ix_list (pv 4) pe_int (fun _ _ => rfl)) pe_str (nomark _))
          (pw_or1 (pt_cmpR op_gt (pe_callB call_len_seq (by rfl) mL PySem.boot_len (pa_cons (pv 4) pa_nil)) (pe_op op_add (pe_gc (by rfl) mM) pe_int) (nomark _))))))) (pss_one (ps_ret pe_non)) pss_nil)
      (pss_cons (ps_if (pt_not (pt_val (pe_callB (cr_all rfl) (by rfl) mAll (by decide +kernel) (pa_cons (pe_lc (own := [("line", 5)]) (g := gName 5) (tt := tYes) (by rfl) scRead.nd (pi_list (pe_slice sl_list (pv 4) (po_some pe_int) po_none))
            (blkOk_by (own := [("line", 5)]) (N := nRead) (sc := fnScope (top 31)) (by decide +kernel)) (fun _ _ _ _ _ => pg_name (i := 5) scRead.nd rfl (Or.inl rfl)) (fun _ _ _ _ _ => pts_nil)
            (fun _ _ _ _ _ => pe_c cL hr (by decide) (by rfl) (pa_cons (pv 5) (pa_cons (pe_callB (r := rLenSeq K) call_len_seq (by rfl) mL PySem.boot_len (pa_cons (pv 3) pa_nil)) pa_nil)))) pa_nil)))) (pss_one (ps_ret pe_non)) pss_nil)
      (pss_one (ps_ret (pe_tup (pa_cons (pe_tupleOf (by rfl) mT (pv 3)) (pa_cons (pe_tupleOf (by rfl) mT (pe_slice sl_list (pv 4) (po_some pe_int) po_none)) pa_nil))))))))), ?_⟩
    obtain ⟨z1, z2, z3, z4⟩ := said_len g
    have h6 := g.h2
    have h8 := g.hr
    refine ⟨_, rfl, _, .ty "str", _, _, true, rfl, .ty "str", .base (.str _), kit_ty (by decide +kernel), true, rfl, iteF ⟨_, rfl, ⟨_, rfl⟩, _, S [58], rfl, rfl, rfl, _, rfl, ?_⟩⟩
    rw [said_count g]
    refine iteF ⟨_, rfl, ⟨_, rfl⟩, _, S [58], rfl, rfl, rfl, len_S_le z4 (by decide), fun p hp => ?_⟩
    rw [said_split g]
    refine ⟨p, _, rfl, SqL.of upd_same, rfl, _, _, rfl, _, _, rfl, rfl, ?_⟩
    have s1 := same_new (o := .lst ([S (TL.joinL [32] ws), S (tailOf rows)].map V.str)) hp
    refine ⟨_, rfl, ⟨_, rfl⟩, _, S [32], rfl, rfl, rfl, len_S_le z1 (by decide), fun n hn => ?_⟩
    rw [head_split g]
    have s2 := s1.trans (same_new (o := .lst ((ws.map S).map V.str)) hn)
    refine ⟨_, rfl, ⟨_, rfl⟩, _, S [32], rfl, rfl, rfl, len_S_le z2 (by decide), fun R hR => ?_⟩
    rw [tail_split g]
    have s3 := s2.trans (same_new (o := .lst ((S [] :: rows.map S).map V.str)) hR)
    refine ⟨by show 2 ≤ sizeLine; decide, fun q hq => ?_⟩
    have s4 := s3.trans (same_new (o := .tup [.ref n, .ref R]) hq)
    have eT : ∃ H1 : Hp, H1 = upd (upd (upd (upd H p (.lst ([S (TL.joinL [32] ws), S (tailOf rows)].map V.str))) n (.lst ((ws.map S).map V.str))) R (.lst ((S [] :: rows.map S).map V.str))) q (.tup [.ref n, .ref R]) := ⟨_, rfl⟩
    obtain ⟨H1, eH⟩ := eT
    have hR0 := same_new (o := .tup [.ref n, .ref R]) hq _ _ upd_same
    have hN0 := same_new (o := .tup [.ref n, .ref R]) hq _ _ (same_new (o := .lst ((S [] :: rows.map S).map V.str)) hR _ _ upd_same)
    rw [← eH] at s4 hR0 hN0
    have hN : SqL K H1 n (ws.map strV) := SqL.of (by rw [hN0, ← strs_of])
    have hL : SqL K H1 R (strV [] :: rows.map rowV) := SqL.of (by rw [hR0, List.map_cons, List.map_map]; rfl)
    have cutL : cutV (strV [] :: rows.map rowV) (some 1) none = rows.map rowV := by rw [cut_one]; rfl
    have hQ0 : H1 q = some (.tup [.ref n, .ref R]) := by rw [eH]; exact upd_same
    dsimp only
    rw [← eH]
    clear eH
    refine ⟨q, _, rfl, SqT.of hQ0, rfl, _, _, rfl, _, _, rfl, rfl, ?_⟩
    refine ⟨_, rfl, n, _, rfl, .inl hN, _, _, rfl, rfl, _, rfl, ?_⟩
    rw [List.length_map, decide_eq_false (show ¬ (8 : Int) < (ws.length : Int) by omega)]
    refine iteF ⟨_, rfl, n, ws, rfl, hN, by omega, g.pw, g.low, fun H2 s5 => ⟨true, rfl, iteF ?_⟩⟩
    have hN2 := Same.seq s5 hN
    have hL2 := Same.seq s5 hL
    refine ⟨_, rfl, R, _, 0, _, rfl, rfl, hL2, atI_nat (j := 0) rfl, rfl, _, rfl, iteF ?_⟩
    refine ⟨_, rfl, R, _, rfl, .inl hL2, _, _, rfl, rfl, _, _, rfl, rfl, _, rfl, ?_⟩
    rw [List.length_cons, List.length_map, decide_eq_false (show ¬ ((20 : Int) + 1 < ((rows.length + 1 : Nat) : Int)) by omega)]
    refine iteF ?_
    have s6 := s4.trans s5
    refine ⟨_, rfl, 1, rfl, R, _, rfl, hL2, fun c hc => ?_⟩
    rw [cutL]
    have s7 := s6.trans (same_new (o := .lst (rows.map rowV)) hc)
    have hL3 := Same.seq (same_new (o := .lst (rows.map rowV)) hc) hL2
    have hN3 := Same.seq (same_new (o := .lst (rows.map rowV)) hc) hN2
    have eC : upd H2 c (.lst (rows.map rowV)) c = some (.lst (rows.map rowV)) := upd_same
    refine ⟨c, rfl, ⟨_, SqL.of eC⟩, fun D hD => ?_⟩
    refine lc_list (K := K) (a := c) (xs := rows.map rowV) (fun i H' => Acc D (upd H2 c (.lst (rows.map rowV))) (List.replicate i (V.bl true)) H') (acc_start hD) (fun i H' _ hA => Same.seq hA.sm (SqL.of eC)) ?_ ?_
    · rintro i x H' hi hA
      obtain ⟨r, hr1, rfl⟩ := map_at hi
      have ro := g.ok r (List.mem_of_getElem? hr1)
      refine ⟨rfl, _, rfl, _, rfl, n, _, rfl, .inl (Same.seq hA.sm hN3), r, ws.length, ?_, ro.1, by omega, ro.2, fun H4 s8 => rep_step hD hA s8 ?_⟩
      · rw [List.length_map]
        rfl
      · have := (List.getElem?_eq_some_iff.mp hr1).1
        omega
    · intro H' hA
      refine ⟨D, _, rfl, SqL.of hA.trues, ?_⟩
      rw [all_trues]
      refine ⟨true, rfl, ?_⟩
      have s8 := s7.trans hA.sm
      refine iteF ⟨_, rfl, .inl ⟨n, _, rfl, Same.seq hA.sm hN3, fun q1 hq1 => ?_⟩⟩
      have t1 := same_new (o := .tup (ws.map strV)) hq1
      refine ⟨_, rfl, 1, rfl, R, _, rfl, Same.seq t1 (Same.seq hA.sm hL3), fun c2 hc2 => ?_⟩
      rw [cutL]
      have t2 := same_new (o := .lst (rows.map rowV)) hc2
      refine .inl ⟨c2, _, rfl, SqL.of upd_same, fun q2 hq2 => ?_⟩
      have t3 := same_new (o := .tup (rows.map rowV)) hq2
      refine ⟨by show 2 ≤ sizeLine; decide, fun q3 hq3 => ?_⟩
      have t4 := same_new (o := .tup [.ref q1, .ref q2]) hq3
      exact k _ q3 q1 q2 ((((s8.trans t1).trans t2).trans t3).trans t4) upd_same (t4 _ _ (t3 _ _ (t2 _ _ upd_same))) (t4 _ _ upd_same)
end
end RK
set_option Elab.async false
set_option linter.all false
set_option maxRecDepth 100000
namespace RK
open PySem PySem.Spec PyProof.Rows L2 C8
open SX (S)
section
variable {P : Program} {w : World} {K : PySem.W.Frag} {mg : Str → Option Value} {base : Heap}
/-! closed_rules -/
abbrev nClosed : List Str := ["lines", "many", "lot", "left", "line", "rule"]
theorem scClosed : FnScope nClosed (nClosed.take 3) (fnScope (top 45)) := fnScope_by (by decide +kernel)
def openTo (rows : List Row) (n : Nat) (lot : List Nat) : List Nat := (List.range n).filter fun r => !canNext rows lot r
def spClosed (K : PySem.W.Frag) : Sp := fun vs H Q _ => ∃ (l a : Addr) (n : Nat) (rows : List Row) (lot : List Nat), vs = [.ref l, nV n, .ref a] ∧ SqT K H l (rows.map rowV) ∧ SqT K H a (lot.map nV) ∧ n ≤ 8 ∧ rows.length ≤ 100 ∧ lot.length ≤ 100 ∧ RowsOk n rows ∧ (∀ j ∈ lot, j < n) ∧
  ∀ (H' : Hp) (z : Addr), Same H H' → H' z = some (.lst ((openTo rows n lot).map nV)) → H z = none → Q (.ref z) H'
theorem closed_eq (rows : List Row) (lot : List Nat) (r : Nat) : (lot.contains r || (rows.filter fun z => !plusIn z lot).any fun z => sg z r == 45) = !canNext rows lot r := by
  unfold canNext
  have e : ((rows.filter fun z => !plusIn z lot).any fun z => sg z r == 45) = rows.any (blocks lot r) := by
    rw [List.any_filter]
    refine congrArg (fun f => rows.any f) (funext fun z => ?_)
    unfold blocks
    exact Bool.and_comm _ _
  rw [e]
  cases lot.contains r <;> cases rows.any (blocks lot r) <;> rfl
theorem ok_closed {f : Addr} {fd : FuncData} (F : Def K mg "closed_rules" (top 45) f fd) (b : Binds K fd (nClosed.take 3) []) (mAny : mg "any" = none) (mR : mg "range" = none) : Cal P w K mg base 1 "closed_rules" (spClosed K) [] := by
  refine cal0 F b .nil scClosed (fun vs H Q E h => ?_) (fun cdv A outer s H vs Q E hr h => ?_)
  · obtain ⟨l, a, n, rows, lot, rfl, _⟩ := h
    rfl
  · obtain ⟨l, a, n, rows, lot, rfl, hl, ha, hn, h1, h2, hR, hlot, k⟩ := h
    refine ⟨_, pss_cons (ps_set (i := 3) scClosed.nd rfl (Or.inr rfl) (pe_lc (own := [("line", 4)]) (g := gName 4) (by rfl) scClosed.nd (pi_tup (pv 0))
        (blkOk_by (own := [("line", 4)]) (N := nClosed) (sc := fnScope (top 45)) (by decide +kernel)) (fun _ _ _ _ _ => pg_name (i := 4) scClosed.nd rfl (Or.inr rfl))
        (fun _ _ _ _ _ => pts_one (pt_not (pt_val (pe_callB (r := rAny K) (cr_any rfl) (by rfl) mAny (by decide +kernel) (pa_cons (pe_lc (wi := iTup K (tVar 2)) (own := [("rule", 5)]) (g := gName 5) (tt := tYes) (by rfl) scClosed.nd (pi_tup (pv 2))
            (blkOk_by (own := [("rule", 5)]) (by kernel_rfl)) (fun _ _ _ _ _ => pg_name (i := 5) scClosed.nd rfl (Or.inl rfl)) (fun _ _ _ _ _ => pts_nil)
            (fun _ _ _ _ _ => pe_cmpR op_eq (pe_ix ix_str (pv 4) (pv 5) (fun _ _ => rfl)) pe_str (nomark _))) pa_nil)))))
        (fun _ _ _ _ _ => pv 4)))
      (pss_one (ps_ret (pe_lc (own := [("rule", 5)]) (g := gName 5) (by rfl) scClosed.nd (pi_range1 (by rfl) mR (pa_cons (pv 1) pa_nil))
        (blkOk_by (own := [("rule", 5)]) (N := nClosed) (sc := fnScope (top 45)) (by decide +kernel)) (fun _ _ _ _ _ => pg_name (i := 5) scClosed.nd rfl (Or.inr rfl))
        (fun _ _ _ _ _ => pts_one (PW.pt (pw_or (pt_cmpR (r := rIn K false) op_in_seq (pv 5) (pv 2) (by rfl)) (pw_or1 (pt_val (pe_callB (r := rAny K) (cr_any rfl) (by rfl) mAny (by decide +kernel) (pa_cons (pe_lc (wi := iList K (tVar 3)) (own := [("line", 4)]) (g := gName 4) (tt := tYes) (by rfl) scClosed.nd (pi_list (pv 3))
            (blkOk_by (own := [("line", 4)]) (by kernel_rfl)) (fun _ _ _ _ _ => pg_name (i := 4) scClosed.nd rfl (Or.inl rfl)) (fun _ _ _ _ _ => pts_nil)
            (fun _ _ _ _ _ => pe_cmpR op_eq (pe_ix ix_str (pv 4) (pv 5) (fun _ _ => rfl)) pe_str (nomark _))) pa_nil)))))))
        (fun _ _ _ _ _ => pv 5)))), ?_⟩
    have len8 : ∀ z ∈ rows, (S z).length ≤ sizeLine := fun z hz => by rw [SX.S_len]; exact Nat.le_trans (by have := (hR z hz).1; omega) (show 8 ≤ sizeLine by decide)
    refine ⟨_, rfl, l, rfl, ⟨_, hl⟩, fun D hD => ?_⟩
    refine lc_tup (xs := rows.map rowV) (fun i H' => Acc D H (((rows.take i).filter fun z => !plusIn z lot).map rowV) H') (acc_start hD) (fun _ _ _ hA => Same.seqT hA.sm hl) ?_ ?_
    · rintro i x H' hi hA
      obtain ⟨z, hz, rfl⟩ := map_at hi
      have zm := List.mem_of_getElem? hz
      refine ⟨rfl, _, rfl, a, rfl, ⟨_, Same.seqT hA.sm ha⟩, fun D2 hD2 => ?_⟩
      refine lc_tup (xs := lot.map nV) (fun j H'' => Acc D2 H' ((lot.take j).map fun y => V.bl (sg z y == 43)) H'') (acc_start hD2) (fun _ _ _ hB => Same.seqT (hA.sm.trans hB.sm) ha) ?_ ?_
      · rintro j y H'' hj hB
        obtain ⟨y, hy, rfl⟩ := map_at hj
        have hyn := hlot y (List.mem_of_getElem? hy)
        have len2 : (lot.take j).length ≤ lot.length := by rw [List.length_take]; exact Nat.min_le_right _ _
        refine ⟨rfl, _, rfl, _, rfl, _, _, _, rfl, rfl, len8 z zm, sg_at (by have := (hR z zm).1; omega), rfl, ?_⟩
        rw [show (V.str ("+" : Str)) = V.str ⟨#[43]⟩ from rfl, sign_eq]
        exact acc_step hD2 hB (.refl _) (by rw [List.length_map]; omega) (take_map (fun y => V.bl (sg z y == 43)) hy)
      · intro H'' hB
        have hB1 := hB.at_
        rw [List.length_map, List.take_length, bl_map] at hB1
        refine ⟨D2, _, rfl, SqL.of hB1, ?_⟩
        rw [any_at]
        refine ⟨_, rfl, ?_⟩
        have ep : (lot.any fun y => sg z y == 43) = plusIn z lot := rfl
        rw [ep]
        cases e : plusIn z lot with
        | true => exact iteF (acc_keep hA hB.sm (take_drop_out (fun z => !plusIn z lot) rowV hz (by rw [e]; rfl)))
        | false => exact iteT ⟨_, rfl, acc_step hD hA hB.sm (Nat.le_trans (take_flen _ _ _ _) (by omega)) (take_filter (fun z => !plusIn z lot) rowV hz (by rw [e]; rfl))⟩
    · intro H1 hA
      have hA1 := hA.at_
      rw [List.length_map, List.take_length] at hA1
      have s1 := hA.sm
      have hL1 : SqL K H1 D ((rows.filter fun z => !plusIn z lot).map rowV) := SqL.of hA1
      refine ⟨_, rfl, (n : Int), rfl, by omega, by omega, fun z hz => ?_⟩
      have nzH : H z = none := s1.free hz
      refine lc_range (lo := 0) (n := (n : Int).toNat) (fun i H' => Acc z H1 ((((List.range n).take i).filter fun r => !canNext rows lot r).map nV) H') (acc_start hz) ?_ ?_
      · rintro i H' hi hB
        have hin : i < n := by omega
        have e0 : V.int (0 + (i : Int)) = nV i := congrArg V.int (by omega)
        have hr1 : (List.range n)[i]? = some i := by rw [List.getElem?_range hin]
        have s2 := s1.trans hB.sm
        rw [e0]
        refine ⟨rfl, _, rfl, _, rfl, a, _, rfl, .inr (Same.seqT s2 ha), rfl, flat_nats lot, _, rfl, ?_⟩
        show if inV (nV i) (lot.map nV) = true then _ else _
        rw [inV_nat]
        have step : ∀ H4 : Hp, Same H' H4 → (if (lot.contains i || (rows.filter fun z => !plusIn z lot).any fun z => sg z i == 45) = true then tVar 5 (List.set (wipe (List.set (wipe (L2.start nClosed [V.ref l, nV n, V.ref a]) [4]) 3 (some (.ref D))) [5]) 5 (some (nV i))) H4 (fun y H4 => ∃ acc, H4 z = some (.lst acc) ∧ acc.length < sizeLine ∧ Acc z H1 ((((List.range n).take (i + 1)).filter fun r => !canNext rows lot r).map nV) (upd H4 z (.lst (acc ++ [y])))) else Acc z H1 ((((List.range n).take (i + 1)).filter fun r => !canNext rows lot r).map nV) H4) := fun H4 s4 => by
          rw [closed_eq]
          cases e : canNext rows lot i with
          | true => exact iteF (acc_keep hB s4 (take_drop_out (fun r => !canNext rows lot r) nV hr1 (by rw [e]; rfl)))
          | false => exact iteT ⟨_, rfl, acc_step hz hB s4 (Nat.le_trans (take_flen _ _ _ _) (by rw [List.length_range]; omega)) (take_filter (fun r => !canNext rows lot r) nV hr1 (by rw [e]; rfl))⟩
        cases ec : lot.contains i with
        | true =>
          have st := step H' (.refl _)
          rw [ec] at st
          exact iteT st
        | false =>
          refine iteF ⟨_, rfl, D, rfl, ⟨_, Same.seq hB.sm hL1⟩, fun D2 hD2 => ?_⟩
          refine lc_list (K := K) (a := D) (xs := (rows.filter fun z => !plusIn z lot).map rowV) (fun j H'' => Acc D2 H' (((rows.filter fun z => !plusIn z lot).take j).map fun y => V.bl (sg y i == 45)) H'') (acc_start hD2) (fun _ _ _ hC => Same.seq (hB.sm.trans hC.sm) hL1) ?_ ?_
          · rintro j y H'' hj hC
            obtain ⟨y, hy, rfl⟩ := map_at hj
            have ym : y ∈ rows := (List.mem_filter.mp (List.mem_of_getElem? hy)).1
            have len2 := (List.getElem?_eq_some_iff.mp hy).1
            have len3 := List.length_filter_le (fun z => !plusIn z lot) rows
            refine ⟨rfl, _, rfl, _, rfl, _, _, _, rfl, rfl, len8 y ym, sg_at (by have := (hR y ym).1; omega), rfl, ?_⟩
            rw [show (V.str ("-" : Str)) = V.str ⟨#[45]⟩ from rfl, sign_eq]
            exact acc_step hD2 hC (.refl _) (by rw [List.length_map, List.length_take]; omega) (take_map (fun y => V.bl (sg y i == 45)) hy)
          · intro H'' hC
            have hC1 := hC.at_
            rw [List.length_map, List.take_length, bl_map] at hC1
            refine ⟨D2, _, rfl, SqL.of hC1, ?_⟩
            rw [any_at]
            have st := step H'' hC.sm
            rw [ec, Bool.false_or] at st
            exact ⟨_, rfl, st⟩
      · intro H' hB
        have hB1 := hB.at_
        rw [show (n : Int).toNat = n by omega, List.take_of_length_le (by rw [List.length_range]; exact Nat.le_refl n)] at hB1
        exact k H' z (s1.trans hB.sm) hB1 nzH
end
end RK
set_option Elab.async false
set_option linter.all false
set_option maxRecDepth 100000
namespace RK
open PySem PySem.Spec PyProof.Rows L2 C8
open SX (S)
section
variable {P : Program} {w : World} {K : PySem.W.Frag} {mg : Str → Option Value} {base : Heap}
/-! numbers by lots -/
abbrev Lots : Type := List (List Nat × Nat)
abbrev lotV (L : Lots) : List (List Key × V) := L.map fun p => (keyOf p.1, nV p.2)
def numOf (s : List Nat) : Lots → Nat
  | [] => 0
  | (t, d) :: r => if t = s then d else numOf s r
def addN (s : List Nat) (c : Nat) : Lots → Lots
  | [] => [(s, c)]
  | (t, d) :: r => if t = s then (t, d + c) :: r else (t, d) :: addN s c r
def wsum (g : List Nat → Nat) (L : Lots) : Nat := (L.map fun p => p.2 * g p.1).sum
theorem key_ne {s t : List Nat} (h : ¬ t = s) : ¬ keyOf t = keyOf s := fun e => h (keyOf_inj e)
theorem lot_val (s : List Nat) : ∀ L : Lots, (valV (lotV L) (keyOf s)).getD (nV 0) = nV (numOf s L)
  | [] => rfl
  | (t, d) :: r => by
    show (valV ((keyOf t, nV d) :: lotV r) (keyOf s)).getD (nV 0) = nV (if t = s then d else numOf s r)
    by_cases h : t = s
    · rw [if_pos h, valV_pos (by rw [h])]
      rfl
    · rw [if_neg h, valV_neg (key_ne h)]
      exact lot_val s r
theorem put_cons_pos {p : List Key × V} {r : List (List Key × V)} {k : List Key} {v : V} (e : p.1 = k) (h : ∀ q ∈ r, ¬ q.1 = k) : putK (p :: r) k v = (p.1, v) :: r := by
  unfold putK
  rw [if_pos (by rw [List.any_cons, decide_eq_true e]; rfl), List.map_cons, if_pos e]
  congr 1
  refine (List.map_congr_left fun q hq => ?_).trans (List.map_id r)
  rw [if_neg (h q hq)]
  rfl
theorem put_cons_neg {p : List Key × V} {r : List (List Key × V)} {k : List Key} {v : V} (e : ¬ p.1 = k) : putK (p :: r) k v = p :: putK r k v := by
  unfold putK
  rw [List.any_cons, decide_eq_false e, Bool.false_or]
  by_cases h : (r.any fun kv => decide (kv.1 = k)) = true
  · rw [if_pos h, if_pos h, List.map_cons, if_neg e]
  · rw [if_neg h, if_neg h]
    rfl
theorem lot_put (s : List Nat) (c : Nat) : ∀ L : Lots, (L.map Prod.fst).Nodup → putK (lotV L) (keyOf s) (nV (numOf s L + c)) = lotV (addN s c L)
  | [], _ => by
    show putK [] (keyOf s) (nV (0 + c)) = [(keyOf s, nV c)]
    rw [Nat.zero_add]
    rfl
  | (t, d) :: r, h => by
    obtain ⟨h1, h2⟩ := List.nodup_cons.mp h
    show putK ((keyOf t, nV d) :: lotV r) (keyOf s) (nV ((if t = s then d else numOf s r) + c)) = lotV (if t = s then (t, d + c) :: r else (t, d) :: addN s c r)
    by_cases e : t = s
    · rw [if_pos e, if_pos e, put_cons_pos (by rw [e]) fun q hq => ?_]
      · rfl
      · obtain ⟨q1, hq1, rfl⟩ := List.mem_map.mp hq
        refine key_ne fun e2 => h1 ?_
        show t ∈ r.map Prod.fst
        rw [e, ← e2]
        exact List.mem_map_of_mem hq1
    · rw [if_neg e, if_neg e, put_cons_neg (key_ne e), lot_put s c r h2]
      rfl
theorem add_sum (g : List Nat → Nat) (s : List Nat) (c : Nat) : ∀ L : Lots, wsum g (addN s c L) = wsum g L + c * g s
  | [] => by
    show c * g s + 0 = 0 + c * g s
    omega
  | (t, d) :: r => by
    show wsum g (if t = s then (t, d + c) :: r else (t, d) :: addN s c r) = (d * g t + wsum g r) + c * g s
    by_cases e : t = s
    · rw [if_pos e]
      show (d + c) * g t + wsum g r = _
      rw [e, Nat.add_mul]
      omega
    · rw [if_neg e]
      show d * g t + wsum g (addN s c r) = _
      rw [add_sum g s c r]
      omega
theorem add_mem {s : List Nat} {c : Nat} {x : List Nat} : ∀ {L : Lots}, x ∈ (addN s c L).map Prod.fst → x = s ∨ x ∈ L.map Prod.fst
  | [], h => .inl (by simpa [addN] using h)
  | (t, d) :: r, h => by
    unfold addN at h
    by_cases e : t = s
    · rw [if_pos e] at h
      exact .inr h
    · rw [if_neg e] at h
      rcases List.mem_cons.mp h with h | h
      · exact .inr (by rw [h]; exact List.mem_cons_self)
      · rcases add_mem h with h | h
        · exact .inl h
        · exact .inr (List.mem_cons_of_mem _ h)
theorem add_nodup {s : List Nat} {c : Nat} : ∀ {L : Lots}, (L.map Prod.fst).Nodup → ((addN s c L).map Prod.fst).Nodup
  | [], _ => by simp [addN]
  | (t, d) :: r, h => by
    obtain ⟨h1, h2⟩ := List.nodup_cons.mp h
    unfold addN
    by_cases e : t = s
    · rw [if_pos e]
      exact h
    · rw [if_neg e]
      refine List.nodup_cons.mpr ⟨fun m => ?_, add_nodup h2⟩
      rcases add_mem m with m | m
      · exact e m
      · exact h1 m
theorem add_len (s : List Nat) (c : Nat) : ∀ L : Lots, (addN s c L).length ≤ L.length + 1
  | [] => Nat.le_refl _
  | (t, d) :: r => by
    unfold addN
    by_cases e : t = s
    · rw [if_pos e]
      simp
    · rw [if_neg e, List.length_cons, List.length_cons]
      exact Nat.succ_le_succ (add_len s c r)
/-- the lots of t rules -/
structure LotOk (n t : Nat) (L : Lots) : Prop where
  nd : (L.map Prod.fst).Nodup
  mem : ∀ s ∈ L.map Prod.fst, s.length = t ∧ ∀ j ∈ s, j < n
theorem LotOk.add {n t c : Nat} {L : Lots} {s : List Nat} (h : LotOk n t L) (h1 : s.length = t) (h2 : ∀ j ∈ s, j < n) : LotOk n t (addN s c L) :=
  ⟨add_nodup h.nd, fun x hx => by
    rcases add_mem hx with e | m
    · rw [e]; exact ⟨h1, h2⟩
    · exact h.mem x m⟩
theorem take_sum {α : Type} (f : α → Nat) {l : List α} {i : Nat} {x : α} (h : l[i]? = some x) : ((l.take (i + 1)).map f).sum = ((l.take i).map f).sum + f x := by
  rw [List.take_add_one, h, List.map_append, List.sum_append]
  simp
theorem mul_sum (c : Nat) : ∀ l : List Nat, c * l.sum = (l.map fun x => c * x).sum
  | [] => rfl
  | x :: l => by rw [List.sum_cons, List.map_cons, List.sum_cons, Nat.mul_add, mul_sum c l]
theorem wsum_one (L : Lots) : wsum (fun _ => 1) L = (L.map Prod.snd).sum := by
  unfold wsum
  congr 1
  exact List.map_congr_left fun p _ => Nat.mul_one _
theorem pow_small {n t : Nat} (hn : n ≤ 6) (ht : t ≤ n) : n ^ t ≤ 46656 := by
  have h1 : n ^ t ≤ 6 ^ t := Nat.pow_le_pow_left hn t
  have h2 : 6 ^ t ≤ 6 ^ 6 := Nat.pow_le_pow_right (by decide) (by omega)
  exact Nat.le_trans h1 (Nat.le_trans h2 (by decide))
end
end RK
set_option Elab.async false
set_option linter.all false
set_option maxRecDepth 100000
namespace RK
open PySem PySem.Spec PyProof.Rows L2 C8
open SX (S)
section
variable {P : Program} {w : World} {K : PySem.W.Frag} {mg : Str → Option Value} {base : Heap}
/-! tally -/
abbrev nTally : List Str := ["lines", "many", "ways", "turn", "later", "lot", "number", "closed", "rule", "more"]
theorem scTally : FnScope nTally (nTally.take 2) (fnScope (top 46)) := fnScope_by (by decide +kernel)
def spTally (K : PySem.W.Frag) : Sp := fun vs H Q _ => ∃ (l : Addr) (n : Nat) (rows : List Row), vs = [.ref l, nV n] ∧ SqT K H l (rows.map rowV) ∧ n ≤ 6 ∧ rows.length ≤ 100 ∧ RowsOk n rows ∧ ∀ H' : Hp, Same H H' → Q (nV (G rows n n [])) H'
theorem ok_tally {f : Addr} {fd : FuncData} (F : Def K mg "tally" (top 46) f fd) (b : Binds K fd (nTally.take 2) []) (cC : Cal P w K mg base 1 "closed_rules" (spClosed K) []) (mR : mg "range" = none) (mS : mg "sorted" = none) (mT : mg "tuple" = none) (mSum : mg "sum" = none) :
    Cal P w K mg base 2 "tally" (spTally K) [] := by
  refine cal0 F b .nil scTally (fun vs H Q E h => ?_) (fun cdv A outer s H vs Q E hr h => ?_)
  · obtain ⟨l, n, rows, rfl, _⟩ := h
    rfl
  · obtain ⟨l, n, rows, rfl, hl, hn, hrl, hR, k⟩ := h
    have hu := hu_of hr
    refine ⟨_, pss_cons (ps_set (i := 2) scTally.nd rfl (Or.inl rfl) (pe_oneT hu (pe_tup pa_nil) pe_int))
      (pss_cons (ps_for PassesOwn.never rfl (pi_range1 (by rfl) mR (pa_cons (pv 1) pa_nil)) (pg_name (i := 3) scTally.nd rfl (Or.inl rfl))
        (pss_cons (ps_set (i := 4) scTally.nd rfl (Or.inl rfl) pe_dnewT)
        (pss_cons (ps_lock (ps_for PassesOwn.never rfl (pi_itemsT (pv 2)) (pg_tup (by rfl) (pgs_cons (pg_name (i := 5) scTally.nd rfl (Or.inl rfl)) (pgs_cons (pg_name (i := 6) scTally.nd rfl (Or.inl rfl)) pgs_nil)))
          (pss_cons (ps_set (i := 7) scTally.nd rfl (Or.inr rfl) (pe_c cC hr (by decide) (by rfl) (pa_cons (pv 0) (pa_cons (pv 1) (pa_cons (pv 5) pa_nil)))))
          (pss_one (ps_for PassesOwn.never rfl (pi_list (pe_lc (own := [("rule", 8)]) (g := gName 8) (by rfl) scTally.nd (pi_range1 (by rfl) mR (pa_cons (pv 1) pa_nil))
              (blkOk_by (own := [("rule", 8)]) (N := nTally) (sc := fnScope (top 46)) (by decide +kernel)) (fun _ _ _ _ _ => pg_name (i := 8) scTally.nd rfl (Or.inl rfl))
              (fun _ _ _ _ _ => pts_one (pt_cmpR (r := rIn K true) op_notIn_seq (pv 8) (pv 7) (by rfl))) (fun _ _ _ _ _ => pv 8)))
            (pg_name (i := 8) scTally.nd rfl (Or.inl rfl))
            (pss_cons (ps_set (i := 9) scTally.nd rfl (Or.inl rfl) (pe_tupK (K := K) rfl (by rfl) mT (pe_callB (r := rSorted K) cr_sorted (by rfl) mS (by decide +kernel) (pa_cons (pe_lst (pa_starK (K := K) rfl (pv 5) (pa_cons (pv 8) pa_nil))) pa_nil))))
            (pss_one (ps_dput hu (pv 4) (pv 9) (pe_op op_add (pe_dget2 hu (pv 4) (pv 9) pe_int ⟨rfl, rfl, rfl, rfl⟩) (pv 6)) rfl))))))))
        (pss_one (ps_set (i := 2) scTally.nd rfl (Or.inl rfl) (pv 4))))))
      (pss_one (ps_ret (pe_callB (cr_sumValuesT rfl) (by rfl) mSum (by decide +kernel) (pa_cons (pe_bm0 PySem.F.plainAttrs_dict PySem.F.slot_dict_values PySem.F.type_dict_values mt_valuesT (pv 2)) pa_nil))))), ?_⟩
    refine fun d0 hd0 => ⟨Nat.zero_le _, fun t0 ht0 => ?_⟩
    have n0 : d0 ≠ t0 := fun e => by rw [← e, upd_same] at ht0; cases ht0
    have ht1 : H t0 = none := by rw [upd_ne n0.symm] at ht0; exact ht0
    refine ⟨by rw [upd_ne n0, upd_same], t0, [], rfl, upd_same, ?_⟩
    refine ⟨_, rfl, (n : Int), rfl, by omega, by omega, for_range (lo := 0) (n := (n : Int).toNat) (fun t σ H' => ∃ (d : Addr) (L : Lots) (v3 v4 v5 v6 v7 v8 v9 : Option V), σ = [some (.ref l), some (nV n), some (.ref d), v3, v4, v5, v6, v7, v8, v9] ∧
        H' d = some (.dT (lotV L)) ∧ LotOk n t L ∧ L.length ≤ n ^ t ∧ wsum (G rows n (n - t)) L = G rows n n [] ∧ Same H H' ∧ H d = none)
      ⟨d0, [([], 1)], none, none, none, none, none, none, none, rfl, upd_same, ⟨by simp, by simp⟩, Nat.le_refl 1, by show 1 * _ + 0 = _; rw [Nat.one_mul]; rfl, fun z o e => ?_, hd0⟩ ?_ ?_⟩
    · have a1 : z ≠ d0 := ne_of_none e hd0
      have a2 : z ≠ t0 := ne_of_none e ht1
      rw [upd_ne a1, upd_ne a2, upd_ne a1]
      exact e
    · rintro t σ H1 ht ⟨d, L, v3, v4, v5, v6, v7, v8, v9, rfl, hd, ok, len, sum, sm, nd⟩
      have htn : t < n := by omega
      refine fun e he => ⟨d, .dT (lotV L), by rw [upd_ne (ne_of_none hd he)]; exact hd, trivial, fun od => ?_⟩
      have nde : d ≠ e := ne_of_none hd he
      have eH : H e = none := sm.free he
      refine ⟨_, rfl, d, od, lotV L, rfl, upd_same, for_it walk_itemsT (fun i σ H' => ∃ (M : Lots) (v3 v5 v6 v7 v8 v9 : Option V), σ = [some (.ref l), some (nV n), some (.ref d), v3, some (.ref e), v5, v6, v7, v8, v9] ∧
        H' d = some (.frz od (.dT (lotV L))) ∧ H' e = some (.dT (lotV M)) ∧ LotOk n (t + 1) M ∧ M.length ≤ i * n ∧ wsum (G rows n (n - (t + 1))) M = ((L.take i).map fun p => p.2 * G rows n (n - t) p.1).sum ∧ Same H H')
        ⟨[], _, _, _, _, _, _, rfl, upd_same, by rw [upd_ne nde.symm, upd_same]; rfl, ⟨by simp, by simp⟩, Nat.zero_le _, rfl, fun z o ez => ?_⟩ (fun _ _ _ _ ⟨M, _, _, _, _, _, _, _, q, _⟩ => q) ?_ ?_⟩
      · rw [upd_ne (ne_of_none ez nd), upd_ne (ne_of_none ez eH)]
        exact sm _ _ ez
      · rintro i x σ H2 H3 hi ⟨M, v3, v5, v6, v7, v8, v9, rfl, fz, hM, okM, lenM, sumM, smM⟩ ⟨T, q, ks, v, hkv, hq, rfl, hT, rfl⟩
        obtain ⟨⟨lot, c⟩, hL, ep⟩ := map_at hkv
        injection ep with e1 e2
        subst e1; subst e2
        have hlm : lot ∈ L.map Prod.fst := List.mem_map.mpr ⟨(lot, c), List.mem_of_getElem? hL, rfl⟩
        obtain ⟨lt1, lt2⟩ := ok.mem lot hlm
        rw [keyOf_vals] at hq
        have sT := same_new (o := .tup [.ref q, V.int (c : Int)]) hT
        refine ⟨T, _, rfl, SqT.of upd_same, rfl, _, _, rfl, _, _, rfl, rfl, ?_⟩
        refine ⟨_, rfl, _, rfl, _, rfl, l, q, n, rows, lot, rfl, Same.seqT (smM.trans sT) hl, SqT.of (sT _ _ hq), by omega, hrl, by omega, hR, lt2, fun H4 z s4 hz _ => ?_⟩
        have s5 := sT.trans s4
        have hq4 := s5 _ _ hq
        have fz4 := s5 _ _ fz
        have hM4 := s5 _ _ hM
        have sm4 := smM.trans s5
        refine ⟨_, rfl, (n : Int), rfl, by omega, by omega, fun R hR0 => ?_⟩
        refine lc_range (lo := 0) (n := (n : Int).toNat) (fun j H' => Acc R H4 ((((List.range n).take j).filter (canNext rows lot)).map nV) H') (acc_start hR0) ?_ ?_
        · rintro j H' hj hB
          have hjn : j < n := by omega
          have e0 : V.int (0 + (j : Int)) = nV j := congrArg V.int (by omega)
          have hr1 : (List.range n)[j]? = some j := by rw [List.getElem?_range hjn]
          rw [e0]
          refine ⟨rfl, _, rfl, _, rfl, z, _, rfl, .inl (SqL.of (hB.sm _ _ hz)), rfl, flat_nats _, ?_⟩
          show ∃ _, _
          refine ⟨_, rfl, ?_⟩
          show if (!inV (nV j) ((openTo rows n lot).map nV)) = true then _ else _
          rw [inV_nat]
          have ec : (!(openTo rows n lot).contains j) = canNext rows lot j := by
            have e1 : (openTo rows n lot).contains j = !canNext rows lot j := by
              rw [Bool.eq_iff_iff, List.contains_iff_mem]
              unfold openTo
              rw [List.mem_filter]
              exact ⟨fun h => h.2, fun h => ⟨List.mem_range.mpr hjn, h⟩⟩
            rw [e1, Bool.not_not]
          rw [ec]
          cases e : canNext rows lot j with
          | false => exact iteF (acc_keep hB (.refl _) (take_drop_out (canNext rows lot) nV hr1 e))
          | true => exact iteT ⟨_, rfl, acc_step hR0 hB (.refl _) (Nat.le_trans (take_flen _ _ _ _) (by rw [List.length_range]; omega)) (take_filter (canNext rows lot) nV hr1 e)⟩
        · intro H5 hB
          have hB1 := hB.at_
          rw [show (n : Int).toNat = n by omega, List.take_of_length_le (by rw [List.length_range]; exact Nat.le_refl n)] at hB1
          have hB1 : H5 R = some (.lst ((next rows n lot).map nV)) := hB1
          have s6 := hB.sm
          have nextLen : (next rows n lot).length ≤ n := by
            unfold next
            exact Nat.le_trans (List.length_filter_le _ _) (by rw [List.length_range]; exact Nat.le_refl n)
          have iLen : i < L.length := (List.getElem?_eq_some_iff.mp hL).1
          have small : (i + 1) * n ≤ 46656 * 6 := Nat.mul_le_mul (Nat.le_trans iLen (Nat.le_trans len (pow_small hn (by omega)))) hn
          rw [Nat.add_mul, Nat.one_mul] at small
          have nRe : R ≠ e := ne_of hB1 (s6 _ _ hM4) (by intro q; cases q)
          have nqe : q ≠ e := ne_of hq4 hM4 (by intro q; cases q)
          have nde' : d ≠ e := nde
          refine ⟨R, rfl, ⟨_, SqL.of hB1⟩, for_list (K := K) (a := R) (xs := (next rows n lot).map nV) (fun j σ H' => ∃ (M' : Lots) (v8 v9 : Option V), σ = [some (.ref l), some (nV n), some (.ref d), v3, some (.ref e), some (.ref q), some (nV c), some (.ref z), v8, v9] ∧
            H' d = some (.frz od (.dT (lotV L))) ∧ H' e = some (.dT (lotV M')) ∧ LotOk n (t + 1) M' ∧ M'.length ≤ i * n + j ∧ wsum (G rows n (n - (t + 1))) M' = ((L.take i).map fun p => p.2 * G rows n (n - t) p.1).sum + c * (((next rows n lot).take j).map fun r => G rows n (n - (t + 1)) (lot ++ [r])).sum ∧ Same H H' ∧
            H' q = some (.tup (lot.map nV)) ∧ H' R = some (.lst ((next rows n lot).map nV)))
            ⟨M, _, _, rfl, s6 _ _ fz4, s6 _ _ hM4, okM, lenM, by rw [sumM]; show _ = _ + c * 0; omega, sm4.trans s6, s6 _ _ hq4, hB1⟩ (fun _ _ _ _ ⟨_, _, _, _, _, _, _, _, _, _, _, r⟩ => SqL.of r) ?_ ?_⟩
          · rintro j x σ H6 hj ⟨M', v8, v9, rfl, fz6, hM6, okM6, lenM6, sumM6, sm6, hq6, hR6⟩
            obtain ⟨r, hr1, rfl⟩ := map_at hj
            have hrm : r ∈ next rows n lot := List.mem_of_getElem? hr1
            have hrn : r < n := by
              unfold next at hrm
              exact List.mem_range.mp (List.mem_filter.mp hrm).1
            have jLen := (List.getElem?_eq_some_iff.mp hr1).1
            refine ⟨_, rfl, q, _, rfl, .inl (SqT.of hq6), _, rfl, ?_, fun y hy => ?_⟩
            · rw [List.length_append, List.length_map, sizeLine_eq]
              show lot.length + 1 ≤ _
              omega
            · have sy := same_new (o := .lst (lot.map nV ++ [nV r])) hy
              refine ⟨y, (lot ++ [r]).map fun (j : Nat) => (j : Int), rfl, SqL.of ?_, by rw [List.length_map, List.length_append]; show lot.length + 1 < 64; omega, fun ns' z2 hperm _ hz2 => ?_⟩
              · rw [upd_same, List.map_map, List.map_append]
                rfl
              · obtain ⟨zs, ez, pz⟩ := perm_nats hperm
                have sz := sy.trans (same_new (o := .lst (ns'.map V.int)) hz2)
                refine .inl ⟨z2, _, rfl, SqL.of upd_same, fun tt htt => ?_⟩
                have stt := sz.trans (same_new (o := .tup (ns'.map V.int)) htt)
                have hkey := upd_same (H := upd (upd H6 y (.lst (lot.map nV ++ [nV r]))) z2 (.lst (ns'.map V.int))) (a := tt) (o := .tup (ns'.map V.int))
                have hE := stt _ _ hM6
                have hRR := stt _ _ hR6
                have hqq := stt _ _ hq6
                have fzz := stt _ _ fz6
                have smm := sm6.trans stt
                generalize upd (upd (upd H6 y (.lst (lot.map nV ++ [nV r]))) z2 (.lst (ns'.map V.int))) tt (.tup (ns'.map V.int)) = H7 at hkey hE hRR hqq fzz smm
                rw [ez, ← keyOf_vals] at hkey
                have lz : zs.length = t + 1 := by rw [pz.length_eq, List.length_append, lt1]; rfl
                have mz : ∀ j ∈ zs, j < n := fun j hj => by
                  rcases List.mem_append.mp (pz.mem_iff.mp hj) with hj | hj
                  · exact lt2 j hj
                  · rw [List.mem_singleton.mp hj]; exact hrn
                have hlt : (lotV M').length < sizeLine := Nat.lt_of_le_of_lt (show (lotV M').length ≤ 1000000 by rw [List.length_map]; omega) (by decide)
                refine ⟨_, rfl, e, rfl, .inr ⟨_, .inl hE⟩, _, rfl, _, DGet.t hE hkey, _, rfl, ((numOf zs M' : Nat) : Int), (c : Int), lot_val zs M', rfl, ?_⟩
                have eN : V.int (((numOf zs M' : Nat) : Int) + (c : Int)) = nV (numOf zs M' + c) := congrArg V.int (by omega)
                have eP : putK (lotV M') (keyOf zs) (V.int (((numOf zs M' : Nat) : Int) + (c : Int))) = lotV (addN zs c M') := by
                  rw [eN]
                  exact lot_put zs c M' okM6.nd
                refine ⟨_, rfl, _, rfl, e, _, rfl, DPut.t hE hkey hlt, ?_⟩
                refine ⟨addN zs c M', _, _, rfl, ?_, upd_same.trans (congrArg (fun z => some (HO.dT z)) eP), okM6.add lz mz, Nat.le_trans (add_len zs c M') (by omega), ?_, fun b o eb => ?_, ?_, ?_⟩
                · rw [upd_ne nde]; exact fzz
                · rw [add_sum, sumM6, take_sum (fun r => G rows n (n - (t + 1)) (lot ++ [r])) hr1, G_alike (Alike.of_perm pz), Nat.mul_add, Nat.add_assoc]
                · rw [upd_ne (ne_of_none eb eH)]; exact smm _ _ eb
                · rw [upd_ne nqe]; exact hqq
                · rw [upd_ne nRe]; exact hRR
          · rintro σ H6 ⟨M', v8, v9, rfl, fz6, hM6, okM6, lenM6, sumM6, sm6, hq6, hR6⟩
            rw [List.length_map] at lenM6 sumM6
            rw [List.take_length] at sumM6
            refine ⟨M', _, _, _, _, _, _, rfl, fz6, hM6, okM6, by rw [Nat.add_mul, Nat.one_mul]; omega, ?_, sm6⟩
            rw [sumM6, take_sum (fun p : List Nat × Nat => p.2 * G rows n (n - t) p.1) hL]
            have eG : G rows n (n - t) lot = ((next rows n lot).map fun r => G rows n (n - (t + 1)) (lot ++ [r])).sum := by
              rw [show n - t = (n - (t + 1)) + 1 by omega]
              rfl
            rw [eG]
      · rintro σ H2 ⟨M, v3, v5, v6, v7, v8, v9, rfl, fz, hM, okM, lenM, sumM, smM⟩
        rw [List.length_map] at lenM sumM
        rw [List.take_length] at sumM
        refine ⟨fz, ?_⟩
        refine ⟨_, rfl, ?_⟩
        refine ⟨e, M, _, _, _, _, _, _, _, rfl, by rw [upd_ne nde.symm]; exact hM, okM, ?_, ?_, fun b o eb => ?_, eH⟩
        · rw [Nat.pow_succ]
          exact Nat.le_trans lenM (Nat.mul_le_mul_right n len)
        · rw [sumM]
          exact sum
        · rw [upd_ne (ne_of_none eb nd)]
          exact smM _ _ eb
    · rintro σ H' ⟨d, L, v3, v4, v5, v6, v7, v8, v9, rfl, hd, ok, len, sum, sm, nd⟩
      rw [show (n : Int).toNat = n by omega] at sum
      rw [Nat.sub_self] at sum
      have tot : ((L.map Prod.snd).map fun (j : Nat) => (j : Int)).sum = ((G rows n n [] : Nat) : Int) := by
        rw [sum_cast, ← wsum_one, ← sum]
        rfl
      refine ⟨_, rfl, .inr (.inr (.inl ⟨rfl, .inr ⟨_, hd⟩⟩)), d, _, rfl, rfl, hd, fun p hp => ?_⟩
      refine ⟨p, d, lotV L, (L.map Prod.snd).map fun (j : Nat) => (j : Int), rfl, upd_same, by rw [upd_ne (ne_of_none hd hp)]; exact hd, by rw [List.map_map, List.map_map, List.map_map]; rfl, ?_⟩
      rw [tot]
      exact k _ (sm.trans (same_new hp))
end
end RK
set_option Elab.async false
set_option linter.all false
set_option maxRecDepth 100000
namespace RK
open PySem PySem.Spec PyProof.Rows L2 C8
open SX (S)
section
variable {P : Program} {w : World} {K : PySem.W.Frag} {mg : Str → Option Value} {base : Heap}
/-! d.get(k, x) of a dict of the module, the key there -/
def tGetW (K : PySem.W.Frag) (w : World) (td ty tx : TE) : TE := fun σ H Q => td σ H fun x H1 => ∃ p : Addr, x = .ref p ∧ (p == sysModules) = false ∧ (∃ z v, KDct K w p z v) ∧ ty σ H1 fun y H2 => tx σ H2 fun _ H3 => ∃ (z : Str) (v : V), y = .str z ∧ KDct K w p z v ∧ Q v H3
section
variable {X : Cx}
theorem pe_getW {o e f : Expr} {apos cpos : Pos} {td ty tx : TE} (ho : PE X o td) (he : PE X e ty) (hf : PE X f tx) (m : M2 X o "get" apos e f cpos) :
    PE X (.Call (.Attribute o "get" apos) [e, f] [] cpos) (tGetW X.K X.w td ty tx) := by
  constructor
  intro pins s σ H Q I h
  refine wpAny_Call_method m.base m.few m.line PySem.F.plainAttrs_dict PySem.F.slot_dict_get PySem.F.type_dict_get (thn (ho.run pins s σ H _ I h) ?_)
  rintro u s1 ⟨x, H1, I1, rx, p, ex, hd, some_, q1⟩
  subst ex
  have eu : u = Value.ref p := rx
  subst eu
  obtain ⟨z0, v0, es, n, u0, hl, hk, _, _⟩ := some_
  have mo := PySem.W.mapOf_K (prog := X.prog) (w := X.w) I1.kIn hl hk
  have ob : s1.heap.get? p = some ⟨.type "dict", none, .dict es n, #[]⟩ := I1.kIn _ _ hl
  refine ⟨mo.typeIs, fun b eb => by cases eb; exact ⟨_, ob, rfl⟩, ?_⟩
  rw [m.trees]
  refine Calls.callWith_builtin rfl (Calls.evalArgs_plain (Calls.spliced_cons (thn (he.run pins s1 σ H1 _ I1 q1) ?_)))
  rintro iv s2 ⟨y, H2, I2, ry, q2⟩
  refine Calls.spliced_cons (thn (hf.run pins s2 σ H2 _ I2 q2) ?_)
  rintro fv s3 ⟨d, H3, I3, rd, z, v, ey, ⟨es', n', u', hl', hk', e', rv⟩, q3⟩
  subst ey
  obtain ⟨t, et⟩ := ry
  subst et
  have mo3 := PySem.W.mapOf_K (prog := X.prog) (w := X.w) I3.kIn hl' hk'
  refine Calls.spliced_nil (call_meetsIn PySem.F.slot_dict_get mo3.typeIs PySem.F.entry_dict_get (PySem.F.args_dict_get_3 _ _ _) (meets_dict_get_default (strKind X.prog X.w) p (strKind_is X.prog X.w z t) hd fv) ⟨_, mo3, ?_⟩)
  rw [PySem.W.find_K hl' e']
  exact ⟨v, H3, I3.tok _, rv, q3⟩
end
end
end RK
set_option Elab.async false
set_option linter.all false
set_option maxRecDepth 100000
namespace RK
open PySem PySem.Spec PyProof.Rows L2 C8
open SX (S)
section
variable {P : Program} {w : World} {K : PySem.W.Frag} {mg : Str → Option Value} {base : Heap}
/-! shows_count, shows_of_book, accepts -/
abbrev nShC : List Str := ["names", "lines", "number", "certificate"]
theorem scShC : FnScope nShC (nShC.take 4) (fnScope (top 54)) := fnScope_by (by decide +kernel)
def spShC (K : PySem.W.Frag) : Sp := fun vs H Q _ => ∃ (a c : Addr) (k : Int) (ws : List (List Nat)) (rows : List Row), vs = [.ref a, .ref c, .int k, .non] ∧ SqT K H a (ws.map strV) ∧ SqT K H c (rows.map rowV) ∧ GoodB ws rows ∧
  ∀ H' : Hp, Same H H' → Q (.bl (decide (nV (G rows ws.length ws.length []) = V.int k))) H'
theorem ok_shC {f : Addr} {fd : FuncData} (F : Def K mg "shows_count" (top 54) f fd) (cT : Cal P w K mg base 2 "tally" (spTally K) []) (mIs : mg "isinstance" = none) (mI : mg "int" = none) (mB : mg "bool" = none) (mL : mg "len" = none) : FnOk P w K mg base C8.CX0 3 f fd (nShC.take 4) (spShC K) := by
  refine fn0 F.fn scShC (fun vs H Q E h => ?_) (fun cdv A outer s H vs Q E hr h => ?_)
  · obtain ⟨a, c, k, ws, rows, rfl, _⟩ := h
    rfl
  · obtain ⟨a, c, n, ws, rows, rfl, ha, hc, g, k⟩ := h
    refine ⟨_, pss_cons (ps_if (PW.pt (pw_or (pt_cmp (pc_notN (pv 3)))
        (pw_or (pt_not (pt_val (pe_callB call_isi (by rfl) mIs (by decide +kernel) (pa_cons (pv 2) (pa_cons (pe_bltn (v := .ty "int") (by rfl) mI (by decide +kernel) rfl) pa_nil)))))
        (pw_or1 (pt_val (pe_callB call_isi (by rfl) mIs (by decide +kernel) (pa_cons (pv 2) (pa_cons (pe_bltn (v := .ty "bool") (by rfl) mB (by decide +kernel) rfl) pa_nil)))))))) (pss_one (ps_ret pe_bl)) pss_nil)
      (pss_one (ps_ret (pe_cmpR op_eq (pe_c cT hr (by decide) (by rfl) (pa_cons (pv 1) (pa_cons (pe_callB call_len_seq (by rfl) mL PySem.boot_len (pa_cons (pv 0) pa_nil)) pa_nil))) (pv 2) (nomark _)))), ?_⟩
    refine ⟨_, rfl, _, rfl, iteF ⟨_, rfl, _, .ty "int", _, _, true, rfl, .ty "int", .base (.int _), kit_ty (by decide +kernel), true, rfl, iteF ⟨_, rfl, _, .ty "bool", _, _, false, rfl, .ty "bool", .base (.int _), kit_ty (by decide +kernel), false, rfl, iteF ?_⟩⟩⟩
    refine ⟨_, rfl, _, rfl, a, _, rfl, .inr ha, c, ws.length, rows, ?_, hc, g.h2, by have := g.hr; omega, g.ok, fun H2 s2 => ⟨_, rfl, rfl, k H2 s2⟩⟩
    rw [List.length_map]
    rfl
end
end RK
set_option Elab.async false
set_option linter.all false
set_option maxRecDepth 100000
namespace RK
open PySem PySem.Spec PyProof.Rows L2 C8
open SX (S)
section
variable {P : Program} {w : World} {K : PySem.W.Frag} {mg : Str → Option Value} {base : Heap}
abbrev nShB : List Str := ["claim", "certificate", "found", "names", "lines", "shows"]
theorem scShB : FnScope nShB (nShB.take 2) (fnScope (top 56)) := fnScope_by (by decide +kernel)
/-- claim: what certify_count says, or another number in its place -/
def spAcc : Sp := fun vs H Q _ => ∃ (t : Addr) (k : Int) (ws : List (List Nat)) (rows : List Row), vs = [.ref t, .non] ∧ H t = some (.tup [.str "count", strV (said ws rows), .int k]) ∧ GoodB ws rows ∧
  ∀ H' : Hp, Same H H' → Q (.bl (decide (nV (G rows ws.length ws.length []) = V.int k))) H'
abbrev kvShow (a b c d : Addr) : List (Key × V) := [(Sum.inr "follows", .ref a), (Sum.inr "open", .ref b), (Sum.inr "count", .ref c), (Sum.inr "alike", .ref d)]
theorem show_get (a b c d : Addr) : valV (mergeK [] (kvShow a b c d)) (Sum.inr "count") = some (.ref c) := by
  have ne : ¬ ((Sum.inr ("count" : Str) : Key) = Sum.inr ("alike" : Str)) := by decide +kernel
  show valV (putK (putK (putK (putK [] (Sum.inr ("follows" : Str) : Key) (.ref a)) (Sum.inr ("open" : Str) : Key) (.ref b)) (Sum.inr ("count" : Str) : Key) (.ref c)) (Sum.inr ("alike" : Str) : Key) (.ref d)) (Sum.inr ("count" : Str) : Key) = some (.ref c)
  rw [valV_put, if_neg ne, valV_put, if_pos rfl]
theorem ok_shB {f g1 g2 g3 g4 : Addr} {fd fc : FuncData} (F : Def K mg "shows_of_book" (top 56) f fd) (b : Binds K fd (nShB.take 2) []) (cR : Cal P w K mg base 3 "read_book" spBookIn [])
    (m1 : mg "shows_follows" = some (.ref g1)) (m2 : mg "shows_open" = some (.ref g2)) (m3 : mg "shows_count" = some (.ref g3)) (m4 : mg "shows_alike" = some (.ref g4))
    (FC : FnOk P w K mg base C8.CX0 3 g3 fc (nShC.take 4) (spShC K)) (hk : PySem.W.keepIn K (.ref g3) = true) (bC : Binds K fc (nShC.take 4) []) : Cal P w K mg base 4 "shows_of_book" spAcc [] := by
  refine cal0 F b .nil scShB (fun vs H Q E h => ?_) (fun cdv A outer s H vs Q E hr h => ?_)
  · obtain ⟨t, n, ws, rows, rfl, _⟩ := h
    rfl
  · obtain ⟨t, n, ws, rows, rfl, ht, g, k⟩ := h
    have hu := hu_of hr
    refine ⟨_, pss_cons (ps_set (i := 2) scShB.nd rfl (Or.inl rfl) (pe_c cR hr (by decide) (by rfl) (pa_cons (pe_ix ix_tup (pv 0) pe_int (fun _ _ => rfl)) pa_nil)))
      (pss_cons (ps_if (pt_cmp (pc_isN (pv 2))) (pss_one (ps_ret pe_bl)) pss_nil)
      (pss_cons (ps_asg (pv 2) (pg_tup (by rfl) (pgs_cons (pg_name (i := 3) scShB.nd rfl (Or.inl rfl)) (pgs_cons (pg_name (i := 4) scShB.nd rfl (Or.inl rfl)) pgs_nil))))
      (pss_cons (ps_if (pt_cmpR op_eq (pe_ix ix_tup (pv 0) pe_int (fun _ _ => rfl)) pe_str (nomark _)) (pss_one ps_never) pss_nil)
      (pss_cons (ps_if (pt_cmpR op_eq (pe_ix ix_tup (pv 0) pe_int (fun _ _ => rfl)) pe_str (nomark _)) (pss_one ps_never) pss_nil)
      (pss_cons (ps_if (pt_cmpR op_eq (pe_ix ix_tup (pv 0) pe_int (fun _ _ => rfl)) pe_str (nomark _)) (pss_one ps_never) pss_nil)
      (pss_cons (ps_set (i := 5) scShB.nd rfl (Or.inl rfl) (pe_disp (pps_cons pe_str (pe_gc (v := .ref g1) (by rfl) ⟨_, m1, rfl⟩) (pps_cons pe_str (pe_gc (v := .ref g2) (by rfl) ⟨_, m2, rfl⟩) (pps_cons pe_str (pe_gc (v := .ref g3) (by rfl) ⟨_, m3, rfl⟩) (pps_cons pe_str (pe_gc (v := .ref g4) (by rfl) ⟨_, m4, rfl⟩) pps_nil)))) (by rfl) (by rfl) (fun z => by cases z) (by decide)))
      (pss_one (ps_ret (pe_callE FC (hr.mono (by decide)) hk bC (pe_dget hu (pv 5) (pe_ix ix_tup (pv 0) pe_int (fun _ _ => rfl)) (fun _ _ => rfl)) (pa_cons (pv 3) (pa_cons (pv 4) (pa_cons (pe_ix ix_tup (pv 0) pe_int (fun _ _ => rfl)) (pa_cons (pv 1) pa_nil)))))))))))))  , ?_⟩
    refine ⟨_, rfl, t, _, 1, _, rfl, rfl, SqT.of ht, rfl, ws, rows, rfl, g, fun H1 q a c s1 hq ha hc => ?_⟩
    have ht1 := s1 _ _ ht
    refine ⟨_, rfl, _, rfl, iteF ⟨_, rfl, q, _, rfl, SqT.of hq, rfl, _, _, rfl, _, _, rfl, rfl, ?_⟩⟩
    refine ⟨_, rfl, t, _, 0, _, rfl, rfl, SqT.of ht1, rfl, rfl, _, rfl, iteF ?_⟩
    refine ⟨_, rfl, t, _, 0, _, rfl, rfl, SqT.of ht1, rfl, rfl, _, rfl, iteF ?_⟩
    refine ⟨_, rfl, t, _, 0, _, rfl, rfl, SqT.of ht1, rfl, rfl, _, rfl, iteF ?_⟩
    refine fun p hp => ⟨upd_same, kvShow g1 g2 g3 g4, rfl, (by show 4 ≤ 15; decide), ?_⟩
    have ed := upd_same (H := upd H1 p (.dK [])) (a := p) (o := .dK (mergeK [] (kvShow g1 g2 g3 g4)))
    have sd : Same H1 (upd (upd H1 p (.dK [])) p (.dK (mergeK [] (kvShow g1 g2 g3 g4)))) := fun z o e => by
      rw [upd_upd]
      exact same_new hp _ _ e
    have gt := DGet.k (k := Sum.inr "count") ed
    rw [show_get] at gt
    generalize upd (upd H1 p (.dK [])) p (.dK (mergeK [] (kvShow g1 g2 g3 g4))) = H2 at ed sd gt
    have ht2 := sd _ _ ht1
    refine ⟨_, rfl, _, rfl, t, _, 0, _, rfl, rfl, SqT.of ht2, rfl, p, _, rfl, gt, rfl, ?_⟩
    refine ⟨_, rfl, _, rfl, _, rfl, t, _, 2, _, rfl, rfl, SqT.of ht2, rfl, _, rfl, a, c, n, ws, rows, rfl, SqT.of (sd _ _ ha), SqT.of (sd _ _ hc), g, fun H3 s3 => k H3 ((s1.trans sd).trans s3)⟩
end
end RK
set_option Elab.async false
set_option linter.all false
set_option maxRecDepth 100000
namespace RK
open PySem PySem.Spec PyProof.Rows L2 C8
open SX (S)
section
variable {P : Program} {w : World} {K : PySem.W.Frag} {mg : Str → Option Value} {base : Heap}
theorem pe_never {X : Cx} {e : Expr} : PE X e (fun _ _ _ => False) := ⟨fun _ _ _ _ _ _ h => h.elim⟩
abbrev nAcc : List Str := ["claim", "certificate"]
theorem scAcc : FnScope nAcc (nAcc.take 2) (fnScope (top 59)) := fnScope_by (by decide +kernel)
theorem ok_acc {f aS : Addr} {fd : FuncData} (F : Def K mg "accepts" (top 59) f fd) (b : Binds K fd (nAcc.take 2) []) (cB : Cal P w K mg base 4 "shows_of_book" spAcc []) (mIs : mg "isinstance" = none) (mT : mg "tuple" = none) (mL : mg "len" = none) (mStr : mg "str" = none)
    (mS : mg "SIZES" = some (.ref aS)) (nS : (aS == sysModules) = false) (kS : KDct K w aS "count" (.int 3)) : Cal P w K mg base 5 "accepts" spAcc [] := by
  refine cal0 F b .nil scAcc (fun vs H Q E h => ?_) (fun cdv A outer s H vs Q E hr h => ?_)
  · obtain ⟨t, n, ws, rows, rfl, _⟩ := h
    rfl
  · obtain ⟨t, n, ws, rows, rfl, ht, g, k⟩ := h
    refine ⟨_, pss_cons (ps_if (PW.pt (pw_or (pt_not (pt_val (pe_callB call_isi (by rfl) mIs (by decide +kernel) (pa_cons (pv 0) (pa_cons (pe_bltn (v := .ty "tuple") (by rfl) mT (by decide +kernel) rfl) pa_nil)))))
        (pw_or (pt_cmpR op_eq (pe_callB call_len_seq (by rfl) mL PySem.boot_len (pa_cons (pv 0) pa_nil)) pe_int (nomark _))
        (pw_or1 (pt_not (pt_val (pe_callB call_isi (by rfl) mIs (by decide +kernel) (pa_cons (pe_ix ix_tup (pv 0) pe_int (fun _ _ => rfl)) (pa_cons (pe_bltn (v := .ty "str") (by rfl) mStr (by decide +kernel) rfl) pa_nil))))))))) (pss_one (ps_ret pe_bl)) pss_nil)
      (pss_cons (ps_if (pt_cmpR op_ne (pe_getW (pe_gc (v := .ref aS) (by rfl) ⟨_, mS, rfl⟩) (pe_ix ix_tup (pv 0) pe_int (fun _ _ => rfl)) pe_int ⟨rfl, rfl, rfl, rfl⟩) (pe_callB call_len_seq (by rfl) mL PySem.boot_len (pa_cons (pv 0) pa_nil)) (nomark _)) (pss_one (ps_ret pe_bl)) pss_nil)
      (pss_one (ps_ret (pe_ifExp (pt_cmpR op_in_seq (pe_ix ix_tup (pv 0) pe_int (fun _ _ => rfl)) (pe_tup (pa_cons pe_str (pa_cons pe_str pa_nil))) (by rfl)) pe_never (pe_c cB hr (by decide) (by rfl) (pa_cons (pv 0) (pa_cons (pv 1) pa_nil))))))), ?_⟩
    refine ⟨_, rfl, _, .ty "tuple", _, _, true, rfl, .ty "tuple", .base (.tup ht), kit_ty (by decide +kernel), true, rfl, iteF ?_⟩
    refine ⟨_, rfl, t, _, rfl, .inr (SqT.of ht), rfl, _, rfl, iteF ?_⟩
    refine ⟨_, rfl, t, _, 0, _, rfl, rfl, SqT.of ht, rfl, _, .ty "str", _, _, true, rfl, .ty "str", .base (.str _), kit_ty (by decide +kernel), true, rfl, iteF ?_⟩
    refine ⟨aS, rfl, nS, ⟨_, _, kS⟩, _, rfl, t, _, 0, _, rfl, rfl, SqT.of ht, rfl, "count", _, rfl, kS, ?_⟩
    refine ⟨_, rfl, t, _, rfl, .inr (SqT.of ht), rfl, _, rfl, iteF ?_⟩
    refine ⟨_, rfl, t, _, 0, _, rfl, rfl, SqT.of ht, rfl, by show 2 ≤ sizeLine; decide, fun q hq => ?_⟩
    have sq := same_new (o := .tup [.str "wins", .str "loses"]) hq
    refine ⟨q, _, rfl, .inr (SqT.of upd_same), rfl, rfl, _, rfl, iteF ?_⟩
    refine ⟨_, rfl, _, rfl, t, n, ws, rows, rfl, sq _ _ ht, g, fun H2 s2 => k H2 (sq.trans s2)⟩
end
end RK
set_option Elab.async false
set_option linter.all false
set_option maxRecDepth 100000
namespace RK
open PySem PySem.Spec PyProof.Rows L2 C8
open SX (S)
section
variable {P : Program} {w : World} {K : PySem.W.Frag} {mg : Str → Option Value} {base : Heap}
/-! what the law shows of a count -/
abbrev dueD (x : Str) (k : Int) : PyData := .tuple [.tuple [.str "count", .str x, .int k], .none]
abbrev dueL (x : Str) (k : Int) : PyData := .list [dueD x k, dueD x k]
theorem due_has (x : Str) (k : Int) : (dueL x k).hasDict = false := by simp [PyData.hasDict, PyData.hasDictAll]
theorem due_depth (x : Str) (k : Int) : (dueL x k).depth ≤ 50 := by
  simp [PyData.depth, PyData.depthAll]
theorem log_small {k : Nat} (h : k ≤ 46656) : k.log2 < 1920 := by
  rcases Nat.eq_zero_or_pos k with e | e
  · subst e; decide
  · have : k.log2 < 20 := (Nat.log2_lt (by omega)).mpr (Nat.lt_of_le_of_lt h (by decide))
    omega
theorem due_show {x : Str} {k : Nat} (h : k ≤ 46656) : (dueL x (k : Int)).showable = true := by
  have := log_small h
  simp [PyData.showable, PyData.showableAll, this]
theorem due_len {x : Str} {k : Nat} (h : k ≤ 46656) (hx : x.length ≤ 200) (hc : ∀ c ∈ x.cps.toList, c < 16 ^ 8) : (dueL x (k : Int)).shown.length ≤ sizeLine := by
  have a1 := StrLaws.reprText_len x hc
  have a2 := StrLaws.reprText_len ("count" : Str) (by decide +kernel)
  have a3 : (PySem.Str.ofString (toString (k : Int))).length ≤ 1921 := int_text_len_1921 (log_small (k := ((k : Nat) : Int).natAbs) (by omega))
  have a4 : ("count" : Str).length = 5 := by decide +kernel
  rw [sizeLine_eq]
  have l1 : ("(" : Str).length = 1 := by decide +kernel
  have l2 : (")" : Str).length = 1 := by decide +kernel
  have l3 : (", " : Str).length = 2 := by decide +kernel
  have l4 : ("[" : Str).length = 1 := by decide +kernel
  have l5 : ("]" : Str).length = 1 := by decide +kernel
  have l6 : ("" : Str).length = 0 := by decide +kernel
  have l7 : ("None" : Str).length = 4 := by decide +kernel
  have b3 : ∀ a b c : Str, (tupleText [a, b, c]).length = a.length + b.length + c.length + 6 := fun a b c => by
    show (("(" : Str) ++ (a ++ (", " : Str) ++ (b ++ (", " : Str) ++ c)) ++ (")" : Str)).length = _
    simp only [strLen_append, l1, l2, l3]
    omega
  have b2 : ∀ a b : Str, (tupleText [a, b]).length = a.length + b.length + 4 := fun a b => by
    show (("(" : Str) ++ (a ++ (", " : Str) ++ b) ++ (")" : Str)).length = _
    simp only [strLen_append, l1, l2, l3]
    omega
  have b1 : ∀ a b : Str, (listText [a, b]).length = a.length + b.length + 4 := fun a b => by
    show (((("[" : Str) ++ ("" : Str) ++ a) ++ (", " : Str) ++ b) ++ ("]" : Str)).length = _
    simp only [strLen_append, l3, l4, l5, l6]
    omega
  show (listText [tupleText [tupleText [reprText "count", reprText x, PySem.Str.ofString (toString (k : Int))], "None"], tupleText [tupleText [reprText "count", reprText x, PySem.Str.ofString (toString (k : Int))], "None"]]).length ≤ _
  rw [b1, b2, b3, l7]
  omega
end
end RK
set_option Elab.async false
set_option linter.all false
set_option maxRecDepth 100000
namespace RK
open PySem PySem.Spec PyProof.Rows L2 C8
open SX (S)
section
variable {P : Program} {w : World} {K : PySem.W.Frag} {mg : Str → Option Value} {base : Heap}
/-! _law_right -/
theorem tif_const {c : Bool} {a b : Int} {σ : L2.St} {H : Hp} {Q : VK} (h : ∀ z : Int, (z = a ∨ z = b) → Q (.int z) H) : if c = true then tC (.int a) σ H Q else tC (.int b) σ H Q := by
  cases c
  · exact h b (.inr rfl)
  · exact h a (.inl rfl)
theorem good_of {ws : List (List Nat)} {rows : List Row} {t : Nat} (h1 : 1 ≤ ws.length) (h2 : ws.length ≤ t) (ht : t ≤ 6) (hw : WordsOk ws) (hr : rows.length ≤ 8) (hR : RowsOk ws.length rows) : GoodB ws rows :=
  ⟨h1, Nat.le_trans h2 ht, hw.1, fun x hx => menu_lower x (hw.2 x hx), hr, hR⟩
/-- a count's answer stands at q -/
def DueAt (H : Hp) (q : Addr) (x : List Nat) (k : Nat) : Prop := ∃ t : Addr, H q = some (.tup [.ref t, .non]) ∧ H t = some (.tup [.str "count", strV x, nV k])
theorem DueAt.same {H H' : Hp} {q : Addr} {x : List Nat} {k : Nat} (h : DueAt H q x k) (s : Same H H') : DueAt H' q x k := let ⟨t, a, b⟩ := h; ⟨t, s _ _ a, s _ _ b⟩
theorem due_one {H : Hp} {q : Addr} {x : List Nat} {k : Nat} (h : DueAt H q x k) : Dp K H (.ref q) (dueD (S x) (k : Int)) := let ⟨_, a, b⟩ := h; .tup (SqT.of a) (.cons (.tup (SqT.of b) (.cons (.str _) (.cons (.str _) (.cons (.int _) .nil)))) (.cons .non .nil))
theorem due_two {H : Hp} {L q r : Addr} {x : List Nat} {k : Nat} (h : H L = some (.lst [.ref q, .ref r])) (h1 : DueAt H q x k) (h2 : DueAt H r x k) : Dp K H (.ref L) (dueL (S x) (k : Int)) := .lst (SqL.of h) (.cons (due_one h1) (.cons (due_one h2) .nil))
theorem mk_same {H H' : Hp} {x dy C : Addr} (hx : H x = none) (hdy : H dy = none) (b : But x (upd (upd H dy (.own x)) x (.ins C dy [])) H') : Same H H' := fun z o e => b _ _ (ne_of_none e hx) (by
  rw [upd_ne (ne_of_none e hx), upd_ne (ne_of_none e hdy)]
  exact e)
theorem three_at {G i : Nat} {x : V} (h : [V.int ((G : Int) - 1), V.int (G : Int), V.int ((G : Int) + 1)][i]? = some x) : ∃ k : Int, x = .int k ∧ i < 3 ∧ decide (nV G = V.int k) = [false, true, false].getD i false := by
  match i, h with
  | 0, h => exact ⟨_, (Option.some.inj h).symm, by decide, decide_eq_false fun e => by injection e with e; omega⟩
  | 1, h => exact ⟨_, (Option.some.inj h).symm, by decide, decide_eq_true rfl⟩
  | 2, h => exact ⟨_, (Option.some.inj h).symm, by decide, decide_eq_false fun e => by injection e with e; omega⟩
theorem three_step {i : Nat} (h : i < 3) : ([false, true, false].take (i + 1)).map V.bl = ([false, true, false].take i).map V.bl ++ [V.bl ([false, true, false].getD i false)] := by
  match i, h with
  | 0, _ => rfl
  | 1, _ => rfl
  | 2, _ => rfl
theorem said_chars {ws : List (List Nat)} {rows : List Row} (g : GoodB ws rows) : ∀ c ∈ (S (said ws rows)).cps.toList, c < 16 ^ 8 := by
  have small : ∀ c ∈ said ws rows, c < 128 := fun c hc => by
    have h1 : ∀ {l : List (List Nat)}, (∀ x ∈ l, ∀ c ∈ x, c < 128) → ∀ c ∈ TL.joinL [32] l, c < 128 := by
      intro l
      induction l with
      | nil => intro _ c hc; exact absurd hc List.not_mem_nil
      | cons p r ih =>
        intro h c hc
        cases r with
        | nil => exact h p List.mem_cons_self c hc
        | cons q r =>
          have hc' : c ∈ p ++ ([32] ++ TL.joinL [32] (q :: r)) := hc
          rcases List.mem_append.mp hc' with hc' | hc'
          · exact h p List.mem_cons_self c hc'
          · rcases List.mem_append.mp hc' with hc' | hc'
            · rw [List.mem_singleton.mp hc']; decide
            · exact ih (fun x hx => h x (List.mem_cons_of_mem _ hx)) c hc'
    unfold said at hc
    rcases List.mem_append.mp hc with hc | hc
    · rcases List.mem_append.mp hc with hc | hc
      · exact h1 (fun x hx c hc => by have := (letters_range c ((g.low x hx).2.2 c hc)).2; omega) c hc
      · rw [List.mem_singleton.mp hc]; decide
    · obtain ⟨l, hl, hc⟩ := List.mem_flatten.mp hc
      obtain ⟨r, hr, rfl⟩ := List.mem_map.mp hl
      rcases List.mem_cons.mp hc with e | hc
      · rw [e]; decide
      · rcases (g.ok r hr).2 c hc with e | e | e <;> omega
  intro c hc
  have := small c (by simpa using hc)
  omega
theorem g_small {rows : List Row} {n : Nat} (hn : n ≤ 6) (hR : ∀ r ∈ rows, Signs r) : G rows n n [] ≤ 46656 := by
  rw [← told_eq hR]
  unfold told
  exact Nat.le_trans (List.length_filter_le _ _) (Nat.le_trans (orders_len n n) (pow_small hn (Nat.le_refl n)))
abbrev nRight : List Str := ["_law_pail", "_law_turn", "_law_words_here", "_law_rows_here", "_law_many", "_law_said_here", "_law_told", "_law_due", "_law_got", "_law_number"]
theorem scRight : FnScope nRight (nRight.take 1) (fnScope (top 75)) := fnScope_by (by decide +kernel)
def spRight : Sp := fun vs H Q _ => ∃ p : Addr, vs = [.ref p] ∧ Pail H p 0 ∧ ∀ H' : Hp, But p H H' → Q (.bl true) H'
theorem ok_right {C f fc : Addr} {fd fdc : FuncData} (F : C8.Fun K "_law_right" "_law_right" (top 75) f fd) (TB : BookK K mg C)
    (cBook : Cal P w K mg base 5 "_law_book" spBook []) (cSaid : Cal P w K mg base 1 "_law_said" (spSaid K) []) (cFit : Cal P w K mg base 3 "_law_fitting" (spFit K) []) (cMak : Mak P w K mg base 4 "Book" C (spBInit C) [])
    (FC : FnOk P w K mg base C8.CX0 9 fc fdc (nCert.take 1) (spCert C)) (mC : mg "certify_count" = some (.ref fc)) (hk : PySem.W.keepIn K (.ref fc) = true) (bC : Binds K fdc (nCert.take 1) [])
    (bK : ∀ (s : Shared) (v : Value), BindsTo s fdc ⟨[], [("book", v)]⟩ [("book", v)]) (cAcc : Cal P w K mg base 5 "accepts" spAcc []) (mR : mg "range" = none) (mL : mg "len" = none) (mRe : mg "repr" = none) : FnG P w K mg base 10 f fd (nRight.take 1) spRight := by
  refine fnG F scRight (fun vs H Q E h => ?_) (fun cdv A outer s H vs Q E hgd hr h => ?_)
  · obtain ⟨p, rfl, _⟩ := h
    rfl
  · obtain ⟨p, rfl, hP, k⟩ := h
    have cCert : Cal P w K mg base 9 "certify_count" (spCert C) [] := ⟨fc, fdc, _, [], FC, mC, hk, bC, .nil⟩
    refine ⟨_, pss_cons (ps_for PassesOwn.never rfl (pi_range1 (by rfl) mR (pa_cons pe_int pa_nil)) (pg_name (i := 1) scRight.nd rfl (Or.inl rfl))
      (pss_cons (ps_asg (pe_c cBook hr (by decide) (by rfl) (pa_cons (pv 0) (pa_cons (pe_ifExp (pt_cmpR op_eq (pv 1) pe_int (nomark _)) pe_int pe_int) (pa_cons pe_int pa_nil)))) (pg_tup (by rfl) (pgs_cons (pg_name (i := 2) scRight.nd rfl (Or.inl rfl)) (pgs_cons (pg_name (i := 3) scRight.nd rfl (Or.inl rfl)) pgs_nil))))
      (pss_cons (ps_asg (pe_tup (pa_cons (pe_callB call_len_seq (by rfl) mL PySem.boot_len (pa_cons (pv 2) pa_nil)) (pa_cons (pe_c cSaid hr (by decide) (by rfl) (pa_cons (pv 2) (pa_cons (pv 3) pa_nil))) pa_nil))) (pg_tup (by rfl) (pgs_cons (pg_name (i := 4) scRight.nd rfl (Or.inl rfl)) (pgs_cons (pg_name (i := 5) scRight.nd rfl (Or.inr rfl)) pgs_nil))))
      (pss_cons (ps_set (i := 6) scRight.nd rfl (Or.inl rfl) (pe_callB call_len_seq (by rfl) mL PySem.boot_len (pa_cons (pe_c cFit hr (by decide) (by rfl) (pa_cons (pv 3) (pa_cons (pv 4) pa_nil))) pa_nil)))
      (pss_cons (ps_set (i := 7) scRight.nd rfl (Or.inl rfl) (pe_tup (pa_cons (pe_tup (pa_cons pe_str (pa_cons (pv 5) (pa_cons (pv 6) pa_nil)))) (pa_cons pe_non pa_nil))))
      (pss_cons (ps_if (pt_cmpR op_ne (pe_callB (call_reprD hgd hr) (by rfl) mRe (by decide +kernel) (pa_cons (pe_lst (pa_cons (pe_c cCert hr (by decide) (by rfl) (pa_cons (pe_mk cMak hr (by decide) (by rfl) (pa_cons (pv 5) pa_nil)) pa_nil))
          (pa_cons (pe_kw1 FC hr (by rfl) mC hk bK (pe_mk cMak hr (by decide) (by rfl) (pa_cons (pv 5) pa_nil))) pa_nil))) pa_nil))
          (pe_callB (call_reprD hgd hr) (by rfl) mRe (by decide +kernel) (pa_cons (pe_lst (pa_cons (pv 7) (pa_cons (pv 7) pa_nil))) pa_nil)) (nomark _)) (pss_one (ps_ret pe_bl)) pss_nil)
      (pss_cons (ps_setLc (i := 8) (own := [("_law_number", 9)]) (g := gName 9) (tt := tYes) (by rfl) scRight.nd rfl rfl (sw_true rfl rfl rfl (by decide +kernel)) (pi_list (pe_lst (pa_cons (pe_op op_sub (pv 6) pe_int) (pa_cons (pv 6) (pa_cons (pe_op op_add (pv 6) pe_int) pa_nil)))))
          (blkOk_by (own := [("_law_number", 9)]) (N := nRight) (sc := fnScope (top 75)) (by decide +kernel)) (fun _ _ _ _ _ => pg_name (i := 9) scRight.nd rfl (Or.inl rfl)) (fun _ _ _ _ _ => pts_nil)
          (fun _ _ _ _ _ => pe_c cAcc hr (by decide) (by rfl) (pa_cons (pe_tup (pa_cons pe_str (pa_cons (pv 5) (pa_cons (pv 9) pa_nil)))) (pa_cons pe_non pa_nil))))
      (pss_one (ps_if (pt_cmpR (op_neD hr.units) (pv 8) (pe_lst (pa_cons pe_bl (pa_cons pe_bl (pa_cons pe_bl pa_nil)))) (nomark _)) (pss_one (ps_ret pe_bl)) pss_nil)))))))))
      (pss_one (ps_ret pe_bl)), ?_⟩
    refine ⟨6, rfl, by omega, by omega, for_range (lo := 0) (n := 6) (fun i σ H' => ∃ v1 v2 v3 v4 v5 v6 v7 v8 v9 : Option V, σ = [some (.ref p), v1, v2, v3, v4, v5, v6, v7, v8, v9] ∧ Pail H' p (i * 200) ∧ But p H H')
      ⟨none, none, none, none, none, none, none, none, none, rfl, by rw [Nat.zero_mul]; exact hP, But.refl _ _⟩ ?_ ?_⟩
    · rintro i σ H0 hi ⟨v1, v2, v3, v4, v5, v6, v7, v8, v9, rfl, hP0, b0⟩
      refine ⟨_, rfl, _, rfl, rfl, _, rfl, tif_const fun z hz => ?_⟩
      obtain ⟨t, rfl, ht1, ht2⟩ : ∃ t : Nat, z = (t : Int) ∧ 1 ≤ t ∧ t ≤ 6 := by
        rcases hz with e | e
        · exact ⟨6, e, by omega, by omega⟩
        · exact ⟨5, e, by omega, by omega⟩
      refine ⟨p, t, 8, i * 200, rfl, hP0, ht1, ht2, by omega, by omega, fun H1 q a b ws rows b1 hP1 hq ha hb h1 h2 hw hr8 hR => ?_⟩
      have g := good_of h1 h2 ht2 hw hr8 hR
      refine ⟨q, _, rfl, SqT.of hq, rfl, _, _, rfl, _, _, rfl, rfl, ?_⟩
      refine ⟨_, rfl, a, _, rfl, .inr (SqT.of ha), _, rfl, _, rfl, a, b, ws, rows, rfl, SqT.of ha, SqT.of hb, by have := g.h2; omega, fun x hx => (g.low x hx).2.1, hr8, fun r hr => by have := (hR r hr).1; have := g.h2; omega, fun H2 s2 => ⟨by show 2 ≤ sizeLine; decide, fun q2 hq2 => ?_⟩⟩
      have s3 := s2.trans (same_new (o := .tup [.int ((ws.map strV).length : Int), strV (said ws rows)]) hq2)
      have eq2 := upd_same (H := H2) (a := q2) (o := .tup [.int ((ws.map strV).length : Int), strV (said ws rows)])
      generalize upd H2 q2 (.tup [.int ((ws.map strV).length : Int), strV (said ws rows)]) = H3 at s3 eq2
      rw [List.length_map] at eq2
      refine ⟨q2, _, rfl, SqT.of eq2, rfl, _, _, rfl, _, _, rfl, rfl, ?_⟩
      refine ⟨_, rfl, _, rfl, b, ws.length, rows, rfl, SqT.of (s3 _ _ hb), g.h2, by omega, hR, fun H4 qf xs s4 hqf hxl => ⟨qf, xs, rfl, .inl (SqL.of hqf), ?_⟩⟩
      rw [hxl]
      have hG : told rows ws.length = G rows ws.length ws.length [] := told_eq (fun r hr => (hR r hr).2) _
      rw [hG]
      have s14 := s3.trans s4
      refine ⟨_, rfl, _, rfl, by show 3 ≤ sizeLine; decide, fun t1 ht1 => ⟨by show 2 ≤ sizeLine; decide, fun d1 hd1 => ?_⟩⟩
      have hk1 : G rows ws.length ws.length [] ≤ 46656 := g_small g.h2 fun r hr => (hR r hr).2
      have len1 : (S (said ws rows)).length ≤ 200 := by rw [SX.S_len]; have := (said_len g).2.2.2; omega
      have sh := due_show (x := S (said ws rows)) hk1
      have le := due_len hk1 len1 (said_chars g)
      generalize hgk : G rows ws.length ws.length [] = gk at *
      have s15 := (s14.trans (same_new (o := .tup [.str "count", strV (said ws rows), nV gk]) ht1)).trans (same_new (o := .tup [.ref t1, .non]) hd1)
      have due5 : DueAt (upd (upd H4 t1 (.tup [.str "count", strV (said ws rows), nV gk])) d1 (.tup [.ref t1, .non])) d1 (said ws rows) gk := ⟨t1, upd_same, same_new hd1 _ _ upd_same⟩
      generalize upd (upd H4 t1 (.tup [.str "count", strV (said ws rows), nV gk])) d1 (.tup [.ref t1, .non]) = H5 at s15 due5
      refine ⟨_, rfl, fun x dy hx hdy nxy => ⟨x, dy, ws, rows, rfl, upd_same, g, fun H6 b6 hB6 => ⟨rfl, x, ws, rows, rfl, hB6, g, fun H7 q7 t7 s7 e7 e7t => ?_⟩⟩⟩
      rw [hgk] at e7t
      have due7 : DueAt H7 q7 (said ws rows) gk := ⟨t7, e7, e7t⟩
      have s57 := (mk_same hx hdy b6).trans s7
      refine ⟨_, rfl, fun x2 dy2 hx2 hdy2 _ => ⟨x2, dy2, ws, rows, rfl, upd_same, g, fun H8 b8 hB8 => ⟨rfl, x2, ws, rows, rfl, hB8, g, fun H9 q9 t9 s9 e9 e9t => ?_⟩⟩⟩
      rw [hgk] at e9t
      have due9 : DueAt H9 q9 (said ws rows) gk := ⟨t9, e9, e9t⟩
      have s79 := (mk_same hx2 hdy2 b8).trans s9
      refine ⟨by show 2 ≤ sizeLine; decide, fun L hL => ?_⟩
      have sL := same_new (o := .lst [.ref q7, .ref q9]) hL
      refine ⟨L, _, rfl, due_two upd_same ((due7.same s79).same sL) (due9.same sL), sh, due_has _ _, due_depth _ _, le, ?_⟩
      have s5L := (s57.trans s79).trans sL
      have dueL5 := due5.same s5L
      generalize upd H9 L (.lst [.ref q7, .ref q9]) = H10 at s5L dueL5
      refine ⟨_, rfl, _, rfl, by show 2 ≤ sizeLine; decide, fun L2 hL2 => ?_⟩
      have sL2 := same_new (o := .lst [.ref d1, .ref d1]) hL2
      refine ⟨L2, _, rfl, due_two upd_same (dueL5.same sL2) (dueL5.same sL2), sh, due_has _ _, due_depth _ _, le, rfl, _, rfl, ?_⟩
      rw [decide_eq_true rfl]
      have s5b := s5L.trans sL2
      generalize upd H10 L2 (.lst [.ref d1, .ref d1]) = H11 at s5b
      refine iteF ⟨_, rfl, _, _, rfl, rfl, _, rfl, _, rfl, _, _, rfl, rfl, by show 3 ≤ sizeLine; decide, fun N hN => ?_⟩
      have sN := same_new (o := .lst [V.int ((gk : Int) - 1), V.int (gk : Int), V.int ((gk : Int) + 1)]) hN
      have eN := upd_same (H := H11) (a := N) (o := .lst [V.int ((gk : Int) - 1), V.int (gk : Int), V.int ((gk : Int) + 1)])
      refine ⟨N, rfl, ⟨_, SqL.of eN⟩, fun D hD => ?_⟩
      refine lc_list (K := K) (a := N) (xs := [V.int ((gk : Int) - 1), V.int (gk : Int), V.int ((gk : Int) + 1)]) (fun j H' => Acc D (upd H11 N (.lst [V.int ((gk : Int) - 1), V.int (gk : Int), V.int ((gk : Int) + 1)])) (([false, true, false].take j).map V.bl) H') (acc_start hD) (fun j H' _ hA => SqL.of (hA.sm _ _ eN)) ?_ ?_
      · rintro j x H' hj hA
        obtain ⟨kk, rfl, hj3, hd⟩ := three_at hj
        refine ⟨rfl, _, rfl, _, rfl, by show 3 ≤ sizeLine; decide, fun T hT => ⟨T, kk, ws, rows, rfl, upd_same, g, fun H12 s12 => ?_⟩⟩
        rw [hgk, hd]
        exact acc_step hD hA ((same_new hT).trans s12) (by rw [List.length_map, List.length_take]; show min j 3 ≤ _; omega) (three_step hj3)
      · intro H' hA
        have hA1 := hA.at_
        refine ⟨_, rfl, by show 3 ≤ sizeLine; decide, fun M hM => ?_⟩
        have nDM : D ≠ M := ne_of_none hA1 hM
        refine ⟨.list [.bool false, .bool true, .bool false], .list [.bool false, .bool true, .bool false], .lst (SqL.of (by rw [upd_ne nDM]; exact hA1)) (.cons (.bl _) (.cons (.bl _) (.cons (.bl _) .nil))), .lst (SqL.of upd_same) (.cons (.bl _) (.cons (.bl _) (.cons (.bl _) .nil))), by decide, by decide, _, rfl, ?_⟩
        have sEnd := (((s15.trans s5b).trans sN).trans hA.sm).trans (same_new (o := .lst [V.bl false, V.bl true, V.bl false]) hM)
        refine iteF ⟨_, _, _, _, _, _, _, _, _, rfl, ?_, ?_⟩
        · have := hP1.same sEnd
          rw [Nat.add_mul, Nat.one_mul]
          exact this
        · exact (b0.trans b1).same sEnd
    · rintro σ H' ⟨v1, v2, v3, v4, v5, v6, v7, v8, v9, rfl, hP', b'⟩
      exact k _ b'
end
end RK
set_option Elab.async false
set_option linter.all false
set_option maxRecDepth 100000
namespace RK
open PySem PySem.Spec PyProof.Rows L2 C8
open SX (S)
section
variable {P : Program} {w : World} {K : PySem.W.Frag} {mg : Str → Option Value} {base : Heap}
/-! law -/
abbrev nLaw : List Str := ["_law_script", "_law_turn"]
theorem scLaw : FnScope nLaw (nLaw.take 1) (fnScope (top 76)) := fnScope_by (by decide +kernel)
def spLaw (K : PySem.W.Frag) : Sp := fun vs H Q _ => ∃ (a : Addr) (ns : List Int), vs = [.ref a] ∧ SqL K H a (ns.map V.int) ∧ ns.length ≤ 63 ∧ (∀ z ∈ ns, Builtin.Int.intBits z ≤ 1048576) ∧ ∀ H' : Hp, Q (.bl true) H'
def tGo (sp : Sp) (t : TA) : TE := fun σ H Q => t σ H fun vs H1 => sp vs H1 Q C8.E0
theorem pe_go {X : Cx} {k : Nat} {x : Str} {sp : Sp} {p pos : Pos} {e : Expr} {es : List Expr} {t : TA} (c : CalG X.prog X.w X.K X.mg X.base k x sp) (gd : X.A.guards = some []) (hr : Room k X.A) (hg : Gl X x) (ha : PA X (e :: es) t)
    (hdb : (x == ("__debug__" : Str)) = false := by decide) (he : starEach (e :: es) X.env = (false, eval e X.env) :: starEach es X.env := by rfl) (hpl : (backTo pos (starEach es X.env)).any (·.1) = false := by rfl) :
    PE X (.Call (.Name x p) (e :: es) [] pos) (tGo sp t) := pe_g c gd hr hg ha hdb he hpl
theorem ok_law {f : Addr} {fd : FuncData} (F : C8.Fun K "law" "law" (top 76) f fd) (cB : Cal P w K mg base 1 "_law_begun" (spBegun K) []) (cR : CalG P w K mg base 10 "_law_right" spRight) (mR : mg "range" = none) (mL : mg "len" = none) (mAll : mg "all" = none) (mMax : mg "max" = none) (mMin : mg "min" = none) :
    FnG P w K mg base 11 f fd (nLaw.take 1) (spLaw K) := by
  refine fnG F scLaw (fun vs H Q E h => ?_) (fun cdv A outer s H vs Q E hgd hr h => ?_)
  · obtain ⟨a, ns, rfl, _⟩ := h
    rfl
  · obtain ⟨a, ns, rfl, hS, hl, hbits, k⟩ := h
    refine ⟨_, pss_one (ps_ret (pe_callB (cr_all rfl) (by rfl) mAll (by decide +kernel) (pa_cons (pe_lc (own := [("_law_turn", 1)]) (g := gName 1) (tt := tYes) (by rfl) scLaw.nd
        (pi_range1 (by rfl) mR (pa_cons (pe_callB (call_max2 rfl) (by rfl) mMax (by decide +kernel) (pa_cons pe_int (pa_cons (pe_callB (call_min2 rfl) (by rfl) mMin (by decide +kernel) (pa_cons (pe_callB call_len_seq (by rfl) mL PySem.boot_len (pa_cons (pv 0) pa_nil)) (pa_cons pe_int pa_nil))) pa_nil))) pa_nil))
        (blkOk_by (own := [("_law_turn", 1)]) (N := nLaw) (sc := fnScope (top 76)) (by decide +kernel)) (fun _ _ _ _ _ => pg_name (i := 1) scLaw.nd rfl (Or.inl rfl)) (fun _ _ _ _ _ => pts_nil)
        (fun _ _ _ _ _ => pe_go cR hgd hr (by rfl) (pa_cons (pe_c cB hr (by decide) (by rfl) (pa_cons (pv 0) (pa_cons (pv 1) pa_nil))) pa_nil))) pa_nil))), ?_⟩
    refine ⟨_, rfl, a, _, rfl, .inl hS, _, _, rfl, _, _, rfl, ?_⟩
    rw [List.length_map]
    have hm : ∃ m : Nat, m ≤ 5 ∧ (if (if (5 : Int) < (ns.length : Int) then (5 : Int) else (ns.length : Int)) > 2 then (if (5 : Int) < (ns.length : Int) then (5 : Int) else (ns.length : Int)) else 2) = (m : Int) := by
      by_cases h1 : (5 : Int) < (ns.length : Int)
      · rw [if_pos h1]
        exact ⟨5, by omega, by rw [if_pos (by decide)]; rfl⟩
      · rw [if_neg h1]
        by_cases h2 : (ns.length : Int) > 2
        · rw [if_pos h2]
          exact ⟨ns.length, by omega, rfl⟩
        · rw [if_neg h2]
          exact ⟨2, by omega, rfl⟩
    obtain ⟨m, hm5, em⟩ := hm
    rw [em]
    refine ⟨(m : Int), rfl, by omega, by omega, fun D hD => ?_⟩
    refine lc_range (lo := 0) (n := (m : Int).toNat) (fun i H' => Acc D H (List.replicate i (V.bl true)) H') (acc_start hD) ?_ ?_
    · rintro i H' hi hA
      have e0 : V.int (0 + (i : Int)) = nV i := congrArg V.int (by omega)
      rw [e0]
      refine ⟨rfl, _, rfl, _, rfl, a, i, ns, rfl, Same.seq hA.sm hS, by omega, hbits, fun H1 p s1 hp hP => ⟨p, rfl, hP, fun H2 b2 => ?_⟩⟩
      exact rep_step hD hA (fun z o e => b2 _ _ (ne_of_none e hp) (s1 _ _ e)) (by omega)
    · intro H' hA
      refine ⟨D, _, rfl, SqL.of hA.trues, ?_⟩
      rw [all_trues]
      exact k H'
end
end RK
set_option Elab.async false
set_option linter.all false
set_option maxRecDepth 100000
namespace RK
open PySem PySem.Spec PyProof.Rows L2 C8
open SX (S)
section
variable {P : Program} {w : World} {K : PySem.W.Frag} {mg : Str → Option Value} {base : Heap}
/-! what the top has written -/
def Got (K : PySem.W.Frag) (x qual : Str) (st : Stmt) (f : Addr) : Prop := ∃ (oc : Value) (od : Option Addr) (kV dc pm : Value) (an : Option Addr) (cd ct : Value) (sl : Array (Option Value)),
  K.lookup f = some ⟨oc, od, .func (PySem.W.fnOf x qual (fnArgs st) (fnBody st) (fnScope st) .none kV dc pm an cd ct), sl⟩ ∧ PySem.W.codeIn K cd qual = true
theorem got_mk {x qual : Str} {st : Stmt} {f : Addr} {oc kV dc pm cd ct : Value} {od an : Option Addr} {sl : Array (Option Value)} (l : K.lookup f = some ⟨oc, od, .func (PySem.W.fnOf x qual (fnArgs st) (fnBody st) (fnScope st) .none kV dc pm an cd ct), sl⟩)
    (c : PySem.W.codeIn K cd qual = true) : Got K x qual st f := ⟨oc, od, kV, dc, pm, an, cd, ct, sl, l, c⟩
theorem got_fun {x qual : Str} {st : Stmt} {f : Addr} (ps : List Str) (h : Got K x qual st f)
    (hb : ∀ (kV doc pm : Value) (an : Option Addr) (cdv ct : Value) (us : List Value), us.length = ps.length → bindArgs (PySem.W.fnOf x qual (fnArgs st) (fnBody st) (fnScope st) .none kV doc pm an cdv ct) ⟨us, []⟩ = pure (ps.zip us)) :
    ∃ fd : FuncData, C8.Fun K x qual st f fd ∧ Binds K fd ps [] ∧ ∃ (kV doc pm : Value) (an : Option Addr) (cdv ct : Value), fd = PySem.W.fnOf x qual (fnArgs st) (fnBody st) (fnScope st) .none kV doc pm an cdv ct := by
  obtain ⟨oc, od, kV, dc, pm, an, cd, ct, sl, l, c⟩ := h
  have F : C8.Fun K x qual st f (PySem.W.fnOf x qual (fnArgs st) (fnBody st) (fnScope st) .none kV dc pm an cd ct) := ⟨oc, od, .none, kV, dc, pm, an, cd, ct, sl, rfl, l, c⟩
  exact ⟨_, F, F.binds rfl hb, kV, dc, pm, an, cd, ct, rfl⟩
set_option maxHeartbeats 0 in
theorem all_mk {l : PySem.W.OpenLaw} {h : Heap} {fa : Addr} (X : K.In h) (G : h.Ns mainGlobals mg) (hfa : mg "law" = some (.ref fa))
    {CB CW pt aS g1 g2 g4 f_law_begun f_law_cast f_law_any f_law_row f_law_other f_law_has f_law_allH f_law_order f_law_rows f_law_words f_law_book f_law_said f_law_orders f_law_fit f_law_right f_law_law f_isName f_asc f_isRow f_names f_bookIn f_check f_waysOf f_cert f_isWord f_areW f_isLine f_read f_closed f_tally f_shC f_shB f_acc f_bInit f_bText f_wInit f_wCan f_wEnds f_wCount : Addr} {vs rest : List Value} {es : Array DictEntry} {en : Nat} {u_LETTERS u_SMALL u_SIGNS u_MOST_RULES u_MOST_ROWS u_count : Value}
    (a_CB : PySem.W.nsIn K mainGlobals "Book" = some (some (.ref CB)))
    (pg_CB : PySem.W.plainGet K CB Str.empty = true)
    (hd_CB : PySem.W.hasDictIn K CB = true)
    (po_CB : PySem.W.plainOver K CB = true)
    (sa_CB : PySem.W.findIn K (.ref CB) "__setattr__" = some (some (.builtin "object.__setattr__")))
    (mk_CB : PySem.W.makesIn K CB = true)
    (kc_CB : PySem.W.keepIn K (.ref CB) = true)
    (a_CW : PySem.W.nsIn K mainGlobals "Ways" = some (some (.ref CW)))
    (pg_CW : PySem.W.plainGet K CW Str.empty = true)
    (hd_CW : PySem.W.hasDictIn K CW = true)
    (po_CW : PySem.W.plainOver K CW = true)
    (sa_CW : PySem.W.findIn K (.ref CW) "__setattr__" = some (some (.builtin "object.__setattr__")))
    (mk_CW : PySem.W.makesIn K CW = true)
    (kc_CW : PySem.W.keepIn K (.ref CW) = true)
    (n_written_CB : PySem.W.findIn K (.ref CB) "written" = some none)
    (n_rules_CB : PySem.W.findIn K (.ref CB) "rules" = some none)
    (n_lines_CB : PySem.W.findIn K (.ref CB) "lines" = some none)
    (n_lines_CW : PySem.W.findIn K (.ref CW) "lines" = some none)
    (n_many_CW : PySem.W.findIn K (.ref CW) "many" = some none)
    (n_ends_CW : PySem.W.findIn K (.ref CW) "ends" = some none)
    (n_starts_CW : PySem.W.findIn K (.ref CW) "starts" = some none)
    (ic_a : PySem.W.findIn K (.ref CB) "__class__" = some (some (.builtin "object.__class__")))
    (ic_n : PySem.W.specialIn K (.builtin "object.__class__") "__get__" = some (some (.builtin "getset_descriptor.__get__")))
    (ic_t : PySem.W.takesIn K (.builtin "object.__class__") = some true)
    (ic_m : PySem.W.mroIn K CB (.type "object") = some true)
    (ic_e : PySem.W.kitOne K (.ref CB) (.ref CB) = some true)
    (p_at : PySem.W.findIn K (.ref CB) "text" = some (some (.ref pt)))
    (p_get : PySem.W.specialIn K (.ref pt) "__get__" = some (some (.builtin "property.__get__")))
    (p_tak : PySem.W.takesIn K (.ref pt) = some true)
    (p_rec : PySem.W.recIn K pt "property" = some vs)
    (p_hd : vs = .ref f_bText :: rest)
    (a_law_begun : PySem.W.nsIn K mainGlobals "_law_begun" = some (some (.ref f_law_begun)))
    (d_law_begun : Got K "_law_begun" "_law_begun" (top 61) f_law_begun)
    (k_law_begun : PySem.W.keepIn K (.ref f_law_begun) = true)
    (a_law_cast : PySem.W.nsIn K mainGlobals "_law_cast" = some (some (.ref f_law_cast)))
    (d_law_cast : Got K "_law_cast" "_law_cast" (top 62) f_law_cast)
    (k_law_cast : PySem.W.keepIn K (.ref f_law_cast) = true)
    (a_law_any : PySem.W.nsIn K mainGlobals "_law_any_of" = some (some (.ref f_law_any)))
    (d_law_any : Got K "_law_any_of" "_law_any_of" (top 63) f_law_any)
    (k_law_any : PySem.W.keepIn K (.ref f_law_any) = true)
    (a_law_row : PySem.W.nsIn K mainGlobals "_law_row" = some (some (.ref f_law_row)))
    (d_law_row : Got K "_law_row" "_law_row" (top 64) f_law_row)
    (k_law_row : PySem.W.keepIn K (.ref f_law_row) = true)
    (a_law_other : PySem.W.nsIn K mainGlobals "_law_other_way" = some (some (.ref f_law_other)))
    (d_law_other : Got K "_law_other_way" "_law_other_way" (top 65) f_law_other)
    (k_law_other : PySem.W.keepIn K (.ref f_law_other) = true)
    (a_law_has : PySem.W.nsIn K mainGlobals "_law_has" = some (some (.ref f_law_has)))
    (d_law_has : Got K "_law_has" "_law_has" (top 66) f_law_has)
    (k_law_has : PySem.W.keepIn K (.ref f_law_has) = true)
    (a_law_allH : PySem.W.nsIn K mainGlobals "_law_all_have" = some (some (.ref f_law_allH)))
    (d_law_allH : Got K "_law_all_have" "_law_all_have" (top 67) f_law_allH)
    (k_law_allH : PySem.W.keepIn K (.ref f_law_allH) = true)
    (a_law_order : PySem.W.nsIn K mainGlobals "_law_order" = some (some (.ref f_law_order)))
    (d_law_order : Got K "_law_order" "_law_order" (top 68) f_law_order)
    (k_law_order : PySem.W.keepIn K (.ref f_law_order) = true)
    (a_law_rows : PySem.W.nsIn K mainGlobals "_law_rows" = some (some (.ref f_law_rows)))
    (d_law_rows : Got K "_law_rows" "_law_rows" (top 69) f_law_rows)
    (k_law_rows : PySem.W.keepIn K (.ref f_law_rows) = true)
    (a_law_words : PySem.W.nsIn K mainGlobals "_law_words" = some (some (.ref f_law_words)))
    (d_law_words : Got K "_law_words" "_law_words" (top 70) f_law_words)
    (k_law_words : PySem.W.keepIn K (.ref f_law_words) = true)
    (a_law_book : PySem.W.nsIn K mainGlobals "_law_book" = some (some (.ref f_law_book)))
    (d_law_book : Got K "_law_book" "_law_book" (top 71) f_law_book)
    (k_law_book : PySem.W.keepIn K (.ref f_law_book) = true)
    (a_law_said : PySem.W.nsIn K mainGlobals "_law_said" = some (some (.ref f_law_said)))
    (d_law_said : Got K "_law_said" "_law_said" (top 72) f_law_said)
    (k_law_said : PySem.W.keepIn K (.ref f_law_said) = true)
    (a_law_orders : PySem.W.nsIn K mainGlobals "_law_orders" = some (some (.ref f_law_orders)))
    (d_law_orders : Got K "_law_orders" "_law_orders" (top 73) f_law_orders)
    (k_law_orders : PySem.W.keepIn K (.ref f_law_orders) = true)
    (a_law_fit : PySem.W.nsIn K mainGlobals "_law_fitting" = some (some (.ref f_law_fit)))
    (d_law_fit : Got K "_law_fitting" "_law_fitting" (top 74) f_law_fit)
    (k_law_fit : PySem.W.keepIn K (.ref f_law_fit) = true)
    (a_law_right : PySem.W.nsIn K mainGlobals "_law_right" = some (some (.ref f_law_right)))
    (d_law_right : Got K "_law_right" "_law_right" (top 75) f_law_right)
    (k_law_right : PySem.W.keepIn K (.ref f_law_right) = true)
    (a_law_law : PySem.W.nsIn K mainGlobals "law" = some (some (.ref f_law_law)))
    (d_law_law : Got K "law" "law" (top 76) f_law_law)
    (k_law_law : PySem.W.keepIn K (.ref f_law_law) = true)
    (a_isName : PySem.W.nsIn K mainGlobals "is_name" = some (some (.ref f_isName)))
    (d_isName : Got K "is_name" "is_name" (top 11) f_isName)
    (k_isName : PySem.W.keepIn K (.ref f_isName) = true)
    (a_asc : PySem.W.nsIn K mainGlobals "are_ascending" = some (some (.ref f_asc)))
    (d_asc : Got K "are_ascending" "are_ascending" (top 12) f_asc)
    (k_asc : PySem.W.keepIn K (.ref f_asc) = true)
    (a_isRow : PySem.W.nsIn K mainGlobals "is_row" = some (some (.ref f_isRow)))
    (d_isRow : Got K "is_row" "is_row" (top 14) f_isRow)
    (k_isRow : PySem.W.keepIn K (.ref f_isRow) = true)
    (a_names : PySem.W.nsIn K mainGlobals "are_names" = some (some (.ref f_names)))
    (d_names : Got K "are_names" "are_names" (top 15) f_names)
    (k_names : PySem.W.keepIn K (.ref f_names) = true)
    (a_bookIn : PySem.W.nsIn K mainGlobals "book_in" = some (some (.ref f_bookIn)))
    (d_bookIn : Got K "book_in" "book_in" (top 16) f_bookIn)
    (k_bookIn : PySem.W.keepIn K (.ref f_bookIn) = true)
    (a_check : PySem.W.nsIn K mainGlobals "check_book" = some (some (.ref f_check)))
    (d_check : Got K "check_book" "check_book" (top 18) f_check)
    (k_check : PySem.W.keepIn K (.ref f_check) = true)
    (a_waysOf : PySem.W.nsIn K mainGlobals "ways_of" = some (some (.ref f_waysOf)))
    (d_waysOf : Got K "ways_of" "ways_of" (top 21) f_waysOf)
    (k_waysOf : PySem.W.keepIn K (.ref f_waysOf) = true)
    (a_cert : PySem.W.nsIn K mainGlobals "certify_count" = some (some (.ref f_cert)))
    (d_cert : Got K "certify_count" "certify_count" (top 23) f_cert)
    (k_cert : PySem.W.keepIn K (.ref f_cert) = true)
    (a_isWord : PySem.W.nsIn K mainGlobals "is_word" = some (some (.ref f_isWord)))
    (d_isWord : Got K "is_word" "is_word" (top 28) f_isWord)
    (k_isWord : PySem.W.keepIn K (.ref f_isWord) = true)
    (a_areW : PySem.W.nsIn K mainGlobals "are_words" = some (some (.ref f_areW)))
    (d_areW : Got K "are_words" "are_words" (top 29) f_areW)
    (k_areW : PySem.W.keepIn K (.ref f_areW) = true)
    (a_isLine : PySem.W.nsIn K mainGlobals "is_line" = some (some (.ref f_isLine)))
    (d_isLine : Got K "is_line" "is_line" (top 30) f_isLine)
    (k_isLine : PySem.W.keepIn K (.ref f_isLine) = true)
    (a_read : PySem.W.nsIn K mainGlobals "read_book" = some (some (.ref f_read)))
    (d_read : Got K "read_book" "read_book" (top 31) f_read)
    (k_read : PySem.W.keepIn K (.ref f_read) = true)
    (a_closed : PySem.W.nsIn K mainGlobals "closed_rules" = some (some (.ref f_closed)))
    (d_closed : Got K "closed_rules" "closed_rules" (top 45) f_closed)
    (k_closed : PySem.W.keepIn K (.ref f_closed) = true)
    (a_tally : PySem.W.nsIn K mainGlobals "tally" = some (some (.ref f_tally)))
    (d_tally : Got K "tally" "tally" (top 46) f_tally)
    (k_tally : PySem.W.keepIn K (.ref f_tally) = true)
    (a_shC : PySem.W.nsIn K mainGlobals "shows_count" = some (some (.ref f_shC)))
    (d_shC : Got K "shows_count" "shows_count" (top 54) f_shC)
    (k_shC : PySem.W.keepIn K (.ref f_shC) = true)
    (a_shB : PySem.W.nsIn K mainGlobals "shows_of_book" = some (some (.ref f_shB)))
    (d_shB : Got K "shows_of_book" "shows_of_book" (top 56) f_shB)
    (k_shB : PySem.W.keepIn K (.ref f_shB) = true)
    (a_acc : PySem.W.nsIn K mainGlobals "accepts" = some (some (.ref f_acc)))
    (d_acc : Got K "accepts" "accepts" (top 59) f_acc)
    (k_acc : PySem.W.keepIn K (.ref f_acc) = true)
    (a_bInit : PySem.W.findIn K (.ref CB) "__init__" = some (some (.ref f_bInit)))
    (i_bInit : PySem.W.isFn K (.ref f_bInit) = true)
    (k_bInit : PySem.W.keepIn K (.ref f_bInit) = true)
    (d_bInit : Got K "__init__" "Book.__init__" (inClass (top 17) 0) f_bInit)
    (d_bText : Got K "text" "Book.text" (inClass (top 17) 1) f_bText)
    (a_wInit : PySem.W.findIn K (.ref CW) "__init__" = some (some (.ref f_wInit)))
    (i_wInit : PySem.W.isFn K (.ref f_wInit) = true)
    (k_wInit : PySem.W.keepIn K (.ref f_wInit) = true)
    (d_wInit : Got K "__init__" "Ways.__init__" (inClass (top 20) 0) f_wInit)
    (a_wCan : PySem.W.findIn K (.ref CW) "can_be_next" = some (some (.ref f_wCan)))
    (i_wCan : PySem.W.isFn K (.ref f_wCan) = true)
    (k_wCan : PySem.W.keepIn K (.ref f_wCan) = true)
    (d_wCan : Got K "can_be_next" "Ways.can_be_next" (inClass (top 20) 1) f_wCan)
    (a_wEnds : PySem.W.findIn K (.ref CW) "ends_behind" = some (some (.ref f_wEnds)))
    (i_wEnds : PySem.W.isFn K (.ref f_wEnds) = true)
    (k_wEnds : PySem.W.keepIn K (.ref f_wEnds) = true)
    (d_wEnds : Got K "ends_behind" "Ways.ends_behind" (inClass (top 20) 2) f_wEnds)
    (a_wCount : PySem.W.findIn K (.ref CW) "count" = some (some (.ref f_wCount)))
    (i_wCount : PySem.W.isFn K (.ref f_wCount) = true)
    (k_wCount : PySem.W.keepIn K (.ref f_wCount) = true)
    (d_wCount : Got K "count" "Ways.count" (inClass (top 20) 4) f_wCount)
    (z_len : PySem.W.nsIn K mainGlobals "len" = some none)
    (z_all : PySem.W.nsIn K mainGlobals "all" = some none)
    (z_any : PySem.W.nsIn K mainGlobals "any" = some none)
    (z_range : PySem.W.nsIn K mainGlobals "range" = some none)
    (z_sorted : PySem.W.nsIn K mainGlobals "sorted" = some none)
    (z_tuple : PySem.W.nsIn K mainGlobals "tuple" = some none)
    (z_list : PySem.W.nsIn K mainGlobals "list" = some none)
    (z_set : PySem.W.nsIn K mainGlobals "set" = some none)
    (z_sum : PySem.W.nsIn K mainGlobals "sum" = some none)
    (z_zip : PySem.W.nsIn K mainGlobals "zip" = some none)
    (z_isinstance : PySem.W.nsIn K mainGlobals "isinstance" = some none)
    (z_str : PySem.W.nsIn K mainGlobals "str" = some none)
    (z_int : PySem.W.nsIn K mainGlobals "int" = some none)
    (z_bool : PySem.W.nsIn K mainGlobals "bool" = some none)
    (z_abs : PySem.W.nsIn K mainGlobals "abs" = some none)
    (z_divmod : PySem.W.nsIn K mainGlobals "divmod" = some none)
    (z_repr : PySem.W.nsIn K mainGlobals "repr" = some none)
    (z_max : PySem.W.nsIn K mainGlobals "max" = some none)
    (z_min : PySem.W.nsIn K mainGlobals "min" = some none)
    (v_LETTERS : PySem.W.nsIn K mainGlobals "LETTERS" = some (some u_LETTERS))
    (r_LETTERS : RelV (.str "abcdefghijklmnopqrstuvwxyz") u_LETTERS)
    (v_SMALL : PySem.W.nsIn K mainGlobals "SMALL" = some (some u_SMALL))
    (r_SMALL : RelV (.str "abcdefghijklmnopqrstuvwxyz") u_SMALL)
    (v_SIGNS : PySem.W.nsIn K mainGlobals "SIGNS" = some (some u_SIGNS))
    (r_SIGNS : RelV (.str "+-.") u_SIGNS)
    (v_MOST_RULES : PySem.W.nsIn K mainGlobals "MOST_RULES" = some (some u_MOST_RULES))
    (r_MOST_RULES : RelV (.int 8) u_MOST_RULES)
    (v_MOST_ROWS : PySem.W.nsIn K mainGlobals "MOST_ROWS" = some (some u_MOST_ROWS))
    (r_MOST_ROWS : RelV (.int 20) u_MOST_ROWS)
    (a_SIZES : PySem.W.nsIn K mainGlobals "SIZES" = some (some (.ref aS)))
    (l_SIZES : K.lookup aS = some ⟨.type "dict", none, .dict es en, #[]⟩)
    (y_SIZES : PySem.W.KeysLit w.params es.toList)
    (c_SIZES : PySem.W.nsIn K aS "count" = some (some u_count))
    (rc_SIZES : RelV (.int 3) u_count)
    (s_SIZES : (aS == sysModules) = false)
    (a_g1 : PySem.W.nsIn K mainGlobals "shows_follows" = some (some (.ref g1)))
    (a_g2 : PySem.W.nsIn K mainGlobals "shows_open" = some (some (.ref g2)))
    (a_g4 : PySem.W.nsIn K mainGlobals "shows_alike" = some (some (.ref g4)))
    : ∃ fd : FuncData, (∀ (s : Shared) (v : Value), BindsTo s fd ⟨[v], []⟩ [("_law_script", v)]) ∧ ∀ base : Heap, K.In base → base.Ns mainGlobals mg → FnG l.prog w K mg base 11 fa fd ["_law_script"] (spLaw K) := by
  have e0 := hfa.symm.trans (PySem.W.mg_of X G a_law_law)
  cases e0
  have m_len := PySem.W.mg_none_of X G z_len
  have m_all := PySem.W.mg_none_of X G z_all
  have m_any := PySem.W.mg_none_of X G z_any
  have m_range := PySem.W.mg_none_of X G z_range
  have m_sorted := PySem.W.mg_none_of X G z_sorted
  have m_tuple := PySem.W.mg_none_of X G z_tuple
  have m_list := PySem.W.mg_none_of X G z_list
  have m_set := PySem.W.mg_none_of X G z_set
  have m_sum := PySem.W.mg_none_of X G z_sum
  have m_zip := PySem.W.mg_none_of X G z_zip
  have m_isinstance := PySem.W.mg_none_of X G z_isinstance
  have m_str := PySem.W.mg_none_of X G z_str
  have m_int := PySem.W.mg_none_of X G z_int
  have m_bool := PySem.W.mg_none_of X G z_bool
  have m_abs := PySem.W.mg_none_of X G z_abs
  have m_divmod := PySem.W.mg_none_of X G z_divmod
  have m_repr := PySem.W.mg_none_of X G z_repr
  have m_max := PySem.W.mg_none_of X G z_max
  have m_min := PySem.W.mg_none_of X G z_min
  have w_LETTERS : ∃ u, mg "LETTERS" = some u ∧ RelV (.str "abcdefghijklmnopqrstuvwxyz") u := ⟨_, PySem.W.mg_of X G v_LETTERS, r_LETTERS⟩
  have w_SMALL : ∃ u, mg "SMALL" = some u ∧ RelV (.str "abcdefghijklmnopqrstuvwxyz") u := ⟨_, PySem.W.mg_of X G v_SMALL, r_SMALL⟩
  have w_SIGNS : ∃ u, mg "SIGNS" = some u ∧ RelV (.str "+-.") u := ⟨_, PySem.W.mg_of X G v_SIGNS, r_SIGNS⟩
  have w_MOST_RULES : ∃ u, mg "MOST_RULES" = some u ∧ RelV (.int 8) u := ⟨_, PySem.W.mg_of X G v_MOST_RULES, r_MOST_RULES⟩
  have w_MOST_ROWS : ∃ u, mg "MOST_ROWS" = some u ∧ RelV (.int 20) u := ⟨_, PySem.W.mg_of X G v_MOST_ROWS, r_MOST_ROWS⟩
  have TB : BookK K mg CB := ⟨⟨⟨pg_CB, hd_CB, po_CB, sa_CB⟩, ic_a, ic_n, ic_t, ic_m, ic_e⟩, PySem.W.mg_of X G a_CB, n_written_CB, n_rules_CB, n_lines_CB⟩
  have TW : WaysK K mg CW := ⟨⟨pg_CW, hd_CW, po_CW, sa_CW⟩, PySem.W.mg_of X G a_CW, n_lines_CW, n_many_CW, n_ends_CW, n_starts_CW⟩
  have MB : Mk K CB f_bInit := ⟨mk_CB, a_bInit, i_bInit, kc_CB⟩
  have MW : Mk K CW f_wInit := ⟨mk_CW, a_wInit, i_wInit, kc_CW⟩
  have eCan : Meth K CW "can_be_next" f_wCan := ⟨a_wCan, i_wCan, k_wCan⟩
  have eEnds : Meth K CW "ends_behind" f_wEnds := ⟨a_wEnds, i_wEnds, k_wEnds⟩
  have eCount : Meth K CW "count" f_wCount := ⟨a_wCount, i_wCount, k_wCount⟩
  have hp : PropOf K CB "text" pt f_bText := ⟨p_at, p_get, p_tak, rest, by rw [← p_hd]; exact p_rec⟩
  obtain ⟨fd_law_begun, F_law_begun, b_law_begun, s_law_begun⟩ := got_fun ["_law_script", "_law_turn"] d_law_begun fun _ _ _ _ _ _ us hl => match us, hl with | [_, _], _ => rfl
  have D_law_begun : Def K mg "_law_begun" (top 61) f_law_begun fd_law_begun := ⟨F_law_begun, PySem.W.mg_of X G a_law_begun, k_law_begun⟩
  obtain ⟨fd_law_cast, F_law_cast, b_law_cast, s_law_cast⟩ := got_fun ["_law_pail", "_law_many"] d_law_cast fun _ _ _ _ _ _ us hl => match us, hl with | [_, _], _ => rfl
  have D_law_cast : Def K mg "_law_cast" (top 62) f_law_cast fd_law_cast := ⟨F_law_cast, PySem.W.mg_of X G a_law_cast, k_law_cast⟩
  obtain ⟨fd_law_any, F_law_any, b_law_any, s_law_any⟩ := got_fun ["_law_pail", "_law_some"] d_law_any fun _ _ _ _ _ _ us hl => match us, hl with | [_, _], _ => rfl
  have D_law_any : Def K mg "_law_any_of" (top 63) f_law_any fd_law_any := ⟨F_law_any, PySem.W.mg_of X G a_law_any, k_law_any⟩
  obtain ⟨fd_law_row, F_law_row, b_law_row, s_law_row⟩ := got_fun ["_law_pail", "_law_many"] d_law_row fun _ _ _ _ _ _ us hl => match us, hl with | [_, _], _ => rfl
  have D_law_row : Def K mg "_law_row" (top 64) f_law_row fd_law_row := ⟨F_law_row, PySem.W.mg_of X G a_law_row, k_law_row⟩
  obtain ⟨fd_law_other, F_law_other, b_law_other, s_law_other⟩ := got_fun ["_law_row_here"] d_law_other fun _ _ _ _ _ _ us hl => match us, hl with | [_], _ => rfl
  have D_law_other : Def K mg "_law_other_way" (top 65) f_law_other fd_law_other := ⟨F_law_other, PySem.W.mg_of X G a_law_other, k_law_other⟩
  obtain ⟨fd_law_has, F_law_has, b_law_has, s_law_has⟩ := got_fun ["_law_row_here", "_law_order_here"] d_law_has fun _ _ _ _ _ _ us hl => match us, hl with | [_, _], _ => rfl
  have D_law_has : Def K mg "_law_has" (top 66) f_law_has fd_law_has := ⟨F_law_has, PySem.W.mg_of X G a_law_has, k_law_has⟩
  obtain ⟨fd_law_allH, F_law_allH, b_law_allH, s_law_allH⟩ := got_fun ["_law_rows_here", "_law_order_here"] d_law_allH fun _ _ _ _ _ _ us hl => match us, hl with | [_, _], _ => rfl
  have D_law_allH : Def K mg "_law_all_have" (top 67) f_law_allH fd_law_allH := ⟨F_law_allH, PySem.W.mg_of X G a_law_allH, k_law_allH⟩
  obtain ⟨fd_law_order, F_law_order, b_law_order, s_law_order⟩ := got_fun ["_law_pail", "_law_many"] d_law_order fun _ _ _ _ _ _ us hl => match us, hl with | [_, _], _ => rfl
  have D_law_order : Def K mg "_law_order" (top 68) f_law_order fd_law_order := ⟨F_law_order, PySem.W.mg_of X G a_law_order, k_law_order⟩
  obtain ⟨fd_law_rows, F_law_rows, b_law_rows, s_law_rows⟩ := got_fun ["_law_pail", "_law_many", "_law_most"] d_law_rows fun _ _ _ _ _ _ us hl => match us, hl with | [_, _, _], _ => rfl
  have D_law_rows : Def K mg "_law_rows" (top 69) f_law_rows fd_law_rows := ⟨F_law_rows, PySem.W.mg_of X G a_law_rows, k_law_rows⟩
  obtain ⟨fd_law_words, F_law_words, b_law_words, s_law_words⟩ := got_fun ["_law_pail", "_law_many"] d_law_words fun _ _ _ _ _ _ us hl => match us, hl with | [_, _], _ => rfl
  have D_law_words : Def K mg "_law_words" (top 70) f_law_words fd_law_words := ⟨F_law_words, PySem.W.mg_of X G a_law_words, k_law_words⟩
  obtain ⟨fd_law_book, F_law_book, b_law_book, s_law_book⟩ := got_fun ["_law_pail", "_law_most", "_law_rows_most"] d_law_book fun _ _ _ _ _ _ us hl => match us, hl with | [_, _, _], _ => rfl
  have D_law_book : Def K mg "_law_book" (top 71) f_law_book fd_law_book := ⟨F_law_book, PySem.W.mg_of X G a_law_book, k_law_book⟩
  obtain ⟨fd_law_said, F_law_said, b_law_said, s_law_said⟩ := got_fun ["_law_words_here", "_law_rows_here"] d_law_said fun _ _ _ _ _ _ us hl => match us, hl with | [_, _], _ => rfl
  have D_law_said : Def K mg "_law_said" (top 72) f_law_said fd_law_said := ⟨F_law_said, PySem.W.mg_of X G a_law_said, k_law_said⟩
  obtain ⟨fd_law_orders, F_law_orders, b_law_orders, s_law_orders⟩ := got_fun ["_law_many"] d_law_orders fun _ _ _ _ _ _ us hl => match us, hl with | [_], _ => rfl
  have D_law_orders : Def K mg "_law_orders" (top 73) f_law_orders fd_law_orders := ⟨F_law_orders, PySem.W.mg_of X G a_law_orders, k_law_orders⟩
  obtain ⟨fd_law_fit, F_law_fit, b_law_fit, s_law_fit⟩ := got_fun ["_law_rows_here", "_law_many"] d_law_fit fun _ _ _ _ _ _ us hl => match us, hl with | [_, _], _ => rfl
  have D_law_fit : Def K mg "_law_fitting" (top 74) f_law_fit fd_law_fit := ⟨F_law_fit, PySem.W.mg_of X G a_law_fit, k_law_fit⟩
  obtain ⟨fd_law_right, F_law_right, b_law_right, s_law_right⟩ := got_fun ["_law_pail"] d_law_right fun _ _ _ _ _ _ us hl => match us, hl with | [_], _ => rfl
  have D_law_right : Def K mg "_law_right" (top 75) f_law_right fd_law_right := ⟨F_law_right, PySem.W.mg_of X G a_law_right, k_law_right⟩
  obtain ⟨fd_law_law, F_law_law, b_law_law, s_law_law⟩ := got_fun ["_law_script"] d_law_law fun _ _ _ _ _ _ us hl => match us, hl with | [_], _ => rfl
  obtain ⟨fd_isName, F_isName, b_isName, s_isName⟩ := got_fun ["value"] d_isName fun _ _ _ _ _ _ us hl => match us, hl with | [_], _ => rfl
  have D_isName : Def K mg "is_name" (top 11) f_isName fd_isName := ⟨F_isName, PySem.W.mg_of X G a_isName, k_isName⟩
  obtain ⟨fd_asc, F_asc, b_asc, s_asc⟩ := got_fun ["values"] d_asc fun _ _ _ _ _ _ us hl => match us, hl with | [_], _ => rfl
  have D_asc : Def K mg "are_ascending" (top 12) f_asc fd_asc := ⟨F_asc, PySem.W.mg_of X G a_asc, k_asc⟩
  obtain ⟨fd_isRow, F_isRow, b_isRow, s_isRow⟩ := got_fun ["value", "many"] d_isRow fun _ _ _ _ _ _ us hl => match us, hl with | [_, _], _ => rfl
  have D_isRow : Def K mg "is_row" (top 14) f_isRow fd_isRow := ⟨F_isRow, PySem.W.mg_of X G a_isRow, k_isRow⟩
  obtain ⟨fd_names, F_names, b_names, s_names⟩ := got_fun ["names"] d_names fun _ _ _ _ _ _ us hl => match us, hl with | [_], _ => rfl
  have D_names : Def K mg "are_names" (top 15) f_names fd_names := ⟨F_names, PySem.W.mg_of X G a_names, k_names⟩
  obtain ⟨fd_bookIn, F_bookIn, b_bookIn, s_bookIn⟩ := got_fun ["text"] d_bookIn fun _ _ _ _ _ _ us hl => match us, hl with | [_], _ => rfl
  have D_bookIn : Def K mg "book_in" (top 16) f_bookIn fd_bookIn := ⟨F_bookIn, PySem.W.mg_of X G a_bookIn, k_bookIn⟩
  obtain ⟨fd_check, F_check, b_check, s_check⟩ := got_fun ["book"] d_check fun _ _ _ _ _ _ us hl => match us, hl with | [_], _ => rfl
  have D_check : Def K mg "check_book" (top 18) f_check fd_check := ⟨F_check, PySem.W.mg_of X G a_check, k_check⟩
  obtain ⟨fd_waysOf, F_waysOf, b_waysOf, s_waysOf⟩ := got_fun ["book"] d_waysOf fun _ _ _ _ _ _ us hl => match us, hl with | [_], _ => rfl
  have D_waysOf : Def K mg "ways_of" (top 21) f_waysOf fd_waysOf := ⟨F_waysOf, PySem.W.mg_of X G a_waysOf, k_waysOf⟩
  obtain ⟨fd_cert, F_cert, b_cert, s_cert⟩ := got_fun ["book"] d_cert fun _ _ _ _ _ _ us hl => match us, hl with | [_], _ => rfl
  have D_cert : Def K mg "certify_count" (top 23) f_cert fd_cert := ⟨F_cert, PySem.W.mg_of X G a_cert, k_cert⟩
  obtain ⟨fd_isWord, F_isWord, b_isWord, s_isWord⟩ := got_fun ["value"] d_isWord fun _ _ _ _ _ _ us hl => match us, hl with | [_], _ => rfl
  have D_isWord : Def K mg "is_word" (top 28) f_isWord fd_isWord := ⟨F_isWord, PySem.W.mg_of X G a_isWord, k_isWord⟩
  obtain ⟨fd_areW, F_areW, b_areW, s_areW⟩ := got_fun ["values"] d_areW fun _ _ _ _ _ _ us hl => match us, hl with | [_], _ => rfl
  have D_areW : Def K mg "are_words" (top 29) f_areW fd_areW := ⟨F_areW, PySem.W.mg_of X G a_areW, k_areW⟩
  obtain ⟨fd_isLine, F_isLine, b_isLine, s_isLine⟩ := got_fun ["value", "many"] d_isLine fun _ _ _ _ _ _ us hl => match us, hl with | [_, _], _ => rfl
  have D_isLine : Def K mg "is_line" (top 30) f_isLine fd_isLine := ⟨F_isLine, PySem.W.mg_of X G a_isLine, k_isLine⟩
  obtain ⟨fd_read, F_read, b_read, s_read⟩ := got_fun ["value"] d_read fun _ _ _ _ _ _ us hl => match us, hl with | [_], _ => rfl
  have D_read : Def K mg "read_book" (top 31) f_read fd_read := ⟨F_read, PySem.W.mg_of X G a_read, k_read⟩
  obtain ⟨fd_closed, F_closed, b_closed, s_closed⟩ := got_fun ["lines", "many", "lot"] d_closed fun _ _ _ _ _ _ us hl => match us, hl with | [_, _, _], _ => rfl
  have D_closed : Def K mg "closed_rules" (top 45) f_closed fd_closed := ⟨F_closed, PySem.W.mg_of X G a_closed, k_closed⟩
  obtain ⟨fd_tally, F_tally, b_tally, s_tally⟩ := got_fun ["lines", "many"] d_tally fun _ _ _ _ _ _ us hl => match us, hl with | [_, _], _ => rfl
  have D_tally : Def K mg "tally" (top 46) f_tally fd_tally := ⟨F_tally, PySem.W.mg_of X G a_tally, k_tally⟩
  obtain ⟨fd_shC, F_shC, b_shC, s_shC⟩ := got_fun ["names", "lines", "number", "certificate"] d_shC fun _ _ _ _ _ _ us hl => match us, hl with | [_, _, _, _], _ => rfl
  have D_shC : Def K mg "shows_count" (top 54) f_shC fd_shC := ⟨F_shC, PySem.W.mg_of X G a_shC, k_shC⟩
  obtain ⟨fd_shB, F_shB, b_shB, s_shB⟩ := got_fun ["claim", "certificate"] d_shB fun _ _ _ _ _ _ us hl => match us, hl with | [_, _], _ => rfl
  have D_shB : Def K mg "shows_of_book" (top 56) f_shB fd_shB := ⟨F_shB, PySem.W.mg_of X G a_shB, k_shB⟩
  obtain ⟨fd_acc, F_acc, b_acc, s_acc⟩ := got_fun ["claim", "certificate"] d_acc fun _ _ _ _ _ _ us hl => match us, hl with | [_, _], _ => rfl
  have D_acc : Def K mg "accepts" (top 59) f_acc fd_acc := ⟨F_acc, PySem.W.mg_of X G a_acc, k_acc⟩
  obtain ⟨fd_bInit, F_bInit, b_bInit, s_bInit⟩ := got_fun ["self", "text"] d_bInit fun _ _ _ _ _ _ us hl => match us, hl with | [_, _], _ => rfl
  obtain ⟨fd_bText, F_bText, b_bText, s_bText⟩ := got_fun ["self"] d_bText fun _ _ _ _ _ _ us hl => match us, hl with | [_], _ => rfl
  obtain ⟨fd_wInit, F_wInit, b_wInit, s_wInit⟩ := got_fun ["self", "rows", "many"] d_wInit fun _ _ _ _ _ _ us hl => match us, hl with | [_, _, _], _ => rfl
  obtain ⟨fd_wCan, F_wCan, b_wCan, s_wCan⟩ := got_fun ["self", "above", "rule"] d_wCan fun _ _ _ _ _ _ us hl => match us, hl with | [_, _, _], _ => rfl
  obtain ⟨fd_wEnds, F_wEnds, b_wEnds, s_wEnds⟩ := got_fun ["self", "above"] d_wEnds fun _ _ _ _ _ _ us hl => match us, hl with | [_, _], _ => rfl
  obtain ⟨fd_wCount, F_wCount, b_wCount, s_wCount⟩ := got_fun ["self"] d_wCount fun _ _ _ _ _ _ us hl => match us, hl with | [_], _ => rfl
  obtain ⟨t1, t2, t3, t4, t5, t6, eL⟩ := s_law_law
  obtain ⟨c1, c2, c3, c4, c5, c6, eC⟩ := s_cert
  refine ⟨fd_law_law, fun s v => by subst eL; exact .of_eq rfl, fun base _ _ => ?_⟩
  have c_cast : Cal l.prog w K mg base 1 "_law_cast" spCast [] := ok_cast D_law_cast b_law_cast m_divmod m_int
  have c_any : Cal l.prog w K mg base 2 "_law_any_of" (spAny K) [] := ok_any D_law_any b_law_any c_cast m_len
  have c_row : Cal l.prog w K mg base 3 "_law_row" spRow [] := ok_row D_law_row b_law_row c_any m_range
  have c_other : Cal l.prog w K mg base 1 "_law_other_way" spOther [] := ok_other D_law_other b_law_other
  have c_has : Cal l.prog w K mg base 1 "_law_has" (spHas K) [] := ok_has D_law_has b_law_has
  have c_allH : Cal l.prog w K mg base 2 "_law_all_have" (spAllH K) [] := ok_allH D_law_allH b_law_allH c_has
  have c_order : Cal l.prog w K mg base 2 "_law_order" spOrder [] := ok_order D_law_order b_law_order c_cast m_len m_range m_list m_tuple
  have c_words : Cal l.prog w K mg base 2 "_law_words" spWords [] := ok_words D_law_words b_law_words c_cast m_len m_range m_sorted m_tuple
  have c_rows : Cal l.prog w K mg base 4 "_law_rows" spRows [] := ok_rows D_law_rows b_law_rows c_cast c_order c_row c_has c_other m_range m_tuple
  have c_book : Cal l.prog w K mg base 5 "_law_book" spBook [] := ok_book D_law_book b_law_book c_cast c_words c_rows
  have c_said : Cal l.prog w K mg base 1 "_law_said" (spSaid K) [] := ok_said D_law_said b_law_said
  have c_orders : Cal l.prog w K mg base 1 "_law_orders" spOrders [] := ok_orders D_law_orders b_law_orders m_range
  have c_fit : Cal l.prog w K mg base 3 "_law_fitting" (spFit K) [] := ok_fit D_law_fit b_law_fit c_orders c_allH
  have c_begun : Cal l.prog w K mg base 1 "_law_begun" (spBegun K) [] := ok_begun D_law_begun b_law_begun m_len m_int m_abs
  have c_isName : Cal l.prog w K mg base 1 "is_name" spLower [] := ok_isName D_isName b_isName m_isinstance m_str m_len m_all w_LETTERS
  have c_isWord : Cal l.prog w K mg base 1 "is_word" spLower [] := ok_isWord D_isWord b_isWord m_len m_all w_SMALL
  have c_isRow : Cal l.prog w K mg base 1 "is_row" spIsRow [] := ok_isRow D_isRow b_isRow m_isinstance m_str m_len m_all
  have c_isLine : Cal l.prog w K mg base 1 "is_line" spIsRow [] := ok_isLine D_isLine b_isLine m_isinstance m_str m_len m_all w_SIGNS
  have c_asc : Cal l.prog w K mg base 1 "are_ascending" (spAsc K) [] := ok_asc D_asc b_asc m_zip m_all
  have c_names : Cal l.prog w K mg base 2 "are_names" (spNames K) [] := ok_names D_names b_names c_isName c_asc m_len m_all w_MOST_RULES
  have c_bookIn : Cal l.prog w K mg base 3 "book_in" spBookIn [] := ok_bookIn D_bookIn b_bookIn c_names c_isRow m_isinstance m_str m_len m_all m_tuple w_MOST_ROWS
  have c_bInit : Mak l.prog w K mg base 4 "Book" CB (spBInit CB) [] := ok_bInit TB MB F_bInit b_bInit c_bookIn
  have c_check : Cal l.prog w K mg base 1 "check_book" (spCheck CB) [] := ok_check TB D_check b_check m_isinstance
  have FT : FnOk l.prog w K mg base C8.CX0 1 f_bText fd_bText (nText.take 1) (spText CB) := ok_text TB F_bText
  have c_can : Met l.prog w K mg base 1 CW "can_be_next" (spCan K CW) [] := ok_can TW eCan F_wCan b_wCan m_any
  have c_ends : ∀ m : Nat, Met l.prog w K mg base (m + 1) CW "ends_behind" (spEnds K CW m) [] := ok_ends TW eEnds F_wEnds b_wEnds c_can m_len m_range m_sorted m_sum m_tuple
  have c_wInit : Mak l.prog w K mg base 1 "Ways" CW (spWInit K CW) [] := ok_wInit TW MW F_wInit b_wInit
  have c_count : Met l.prog w K mg base 8 CW "count" (spCount K CW) [] := ok_count TW eCount F_wCount b_wCount c_ends
  have c_waysOf : Cal l.prog w K mg base 3 "ways_of" (spWaysOf K CB CW) [] := ok_waysOf TB D_waysOf b_waysOf c_wInit m_len
  have FC : FnOk l.prog w K mg base C8.CX0 9 f_cert fd_cert (nCert.take 1) (spCert CB) := ok_cert TB D_cert b_cert c_check c_waysOf c_count hp FT b_bText
  have c_areW : Cal l.prog w K mg base 2 "are_words" (spAreW K) [] := ok_areW D_areW b_areW c_isWord m_all m_list m_sorted m_set
  have c_read : Cal l.prog w K mg base 3 "read_book" spBookIn [] := ok_read D_read b_read c_areW c_isLine m_isinstance m_str m_len m_all m_tuple w_MOST_RULES w_MOST_ROWS
  have c_closed : Cal l.prog w K mg base 1 "closed_rules" (spClosed K) [] := ok_closed D_closed b_closed m_any m_range
  have c_tally : Cal l.prog w K mg base 2 "tally" (spTally K) [] := ok_tally D_tally b_tally c_closed m_range m_sorted m_tuple m_sum
  have FS : FnOk l.prog w K mg base C8.CX0 3 f_shC fd_shC (nShC.take 4) (spShC K) := ok_shC D_shC c_tally m_isinstance m_int m_bool m_len
  have c_shB : Cal l.prog w K mg base 4 "shows_of_book" spAcc [] := ok_shB D_shB b_shB c_read (PySem.W.mg_of X G a_g1) (PySem.W.mg_of X G a_g2) D_shC.mgf (PySem.W.mg_of X G a_g4) FS k_shC b_shC
  have c_acc : Cal l.prog w K mg base 5 "accepts" spAcc [] := ok_acc D_acc b_acc c_shB m_isinstance m_tuple m_len m_str (PySem.W.mg_of X G a_SIZES) s_SIZES ⟨_, _, _, l_SIZES, y_SIZES, c_SIZES, rc_SIZES⟩
  have FR : FnG l.prog w K mg base 10 f_law_right fd_law_right (nRight.take 1) spRight := ok_right F_law_right TB c_book c_said c_fit c_bInit FC D_cert.mgf k_cert b_cert (fun s v => by subst eC; exact .of_eq rfl) c_acc m_range m_len m_repr
  have c_right : CalG l.prog w K mg base 10 "_law_right" spRight := ⟨f_law_right, fd_law_right, _, FR, D_law_right.mgf, k_law_right, b_law_right⟩
  exact ok_law F_law_law c_begun c_right m_range m_len m_all m_max m_min
end
end RK
set_option Elab.async false
open PySem PySem.W PyProof.Rows
set_option maxRecDepth 100000 in
set_option maxHeartbeats 0 in
open_top head for PySem.Challenge.rw_rankedrules_k69_whole_certified_counts
set_option Elab.async false
set_option linter.all false
open PySem PySem.W PyProof.Rows in
set_option maxRecDepth 100000 in
set_option maxHeartbeats 0 in
theorem PySem.Challenge.cw_rankedrules_k69_whole_certified_counts_holds : PySem.Challenge.rw_rankedrules_k69_whole_certified_counts.Holds :=
  head (by
  k_fill
  refine RK.walk_go (l := PySem.Challenge.rw_rankedrules_k69_whole_certified_counts) (n := 63) (k := 11) (x := "_law_script") (sp := fun K => RK.spLaw K) rfl (by decide) rfl ⟨rfl, by decide, by decide⟩ (fun w h Y => PySem.W.kIn_of Y) ?F (fun _ _ a ns hl hb hS => ⟨a, ns, rfl, hS, hl, hb, fun _ => rfl⟩)
  case F =>
    intro w mg fa h KX G hmg
    refine' RK.all_mk KX G hmg ?a_CB ?pg_CB ?hd_CB ?po_CB ?sa_CB ?mk_CB ?kc_CB ?a_CW ?pg_CW ?hd_CW ?po_CW ?sa_CW ?mk_CW ?kc_CW ?n_written_CB ?n_rules_CB ?n_lines_CB ?n_lines_CW ?n_many_CW ?n_ends_CW ?n_starts_CW ?ic_a ?ic_n ?ic_t ?ic_m ?ic_e ?p_at ?p_get ?p_tak ?p_rec ?p_hd ?a_law_begun ?d_law_begun ?k_law_begun ?a_law_cast ?d_law_cast ?k_law_cast ?a_law_any ?d_law_any ?k_law_any ?a_law_row ?d_law_row ?k_law_row ?a_law_other ?d_law_other ?k_law_other ?a_law_has ?d_law_has ?k_law_has ?a_law_allH ?d_law_allH ?k_law_allH ?a_law_order ?d_law_order ?k_law_order ?a_law_rows ?d_law_rows ?k_law_rows ?a_law_words ?d_law_words ?k_law_words ?a_law_book ?d_law_book ?k_law_book ?a_law_said ?d_law_said ?k_law_said ?a_law_orders ?d_law_orders ?k_law_orders ?a_law_fit ?d_law_fit ?k_law_fit ?a_law_right ?d_law_right ?k_law_right ?a_law_law ?d_law_law ?k_law_law ?a_isName ?d_isName ?k_isName ?a_asc ?d_asc ?k_asc ?a_isRow ?d_isRow ?k_isRow ?a_names ?d_names ?k_names ?a_bookIn ?d_bookIn ?k_bookIn ?a_check ?d_check ?k_check ?a_waysOf ?d_waysOf ?k_waysOf ?a_cert ?d_cert ?k_cert ?a_isWord ?d_isWord ?k_isWord ?a_areW ?d_areW ?k_areW ?a_isLine ?d_isLine ?k_isLine ?a_read ?d_read ?k_read ?a_closed ?d_closed ?k_closed ?a_tally ?d_tally ?k_tally ?a_shC ?d_shC ?k_shC ?a_shB ?d_shB ?k_shB ?a_acc ?d_acc ?k_acc ?a_bInit ?i_bInit ?k_bInit ?d_bInit ?d_bText ?a_wInit ?i_wInit ?k_wInit ?d_wInit ?a_wCan ?i_wCan ?k_wCan ?d_wCan ?a_wEnds ?i_wEnds ?k_wEnds ?d_wEnds ?a_wCount ?i_wCount ?k_wCount ?d_wCount ?z_len ?z_all ?z_any ?z_range ?z_sorted ?z_tuple ?z_list ?z_set ?z_sum ?z_zip ?z_isinstance ?z_str ?z_int ?z_bool ?z_abs ?z_divmod ?z_repr ?z_max ?z_min ?v_LETTERS ?r_LETTERS ?v_SMALL ?r_SMALL ?v_SIGNS ?r_SIGNS ?v_MOST_RULES ?r_MOST_RULES ?v_MOST_ROWS ?r_MOST_ROWS ?a_SIZES ?l_SIZES ?y_SIZES ?c_SIZES ?rc_SIZES ?s_SIZES ?a_g1 ?a_g2 ?a_g4
    (case a_CB => k_is)
    (case pg_CB => k_is)
    (case hd_CB => k_is)
    (case po_CB => k_is)
    (case sa_CB => k_is)
    (case mk_CB => k_is)
    (case kc_CB => k_is)
    (case a_CW => k_is)
    (case pg_CW => k_is)
    (case hd_CW => k_is)
    (case po_CW => k_is)
    (case sa_CW => k_is)
    (case mk_CW => k_is)
    (case kc_CW => k_is)
    (case n_written_CB => k_is)
    (case n_rules_CB => k_is)
    (case n_lines_CB => k_is)
    (case n_lines_CW => k_is)
    (case n_many_CW => k_is)
    (case n_ends_CW => k_is)
    (case n_starts_CW => k_is)
    (case ic_a => k_is)
    (case ic_n => k_is)
    (case ic_t => k_is)
    (case ic_m => k_is)
    (case ic_e => first | rfl | kernel_rfl | decide)
    (case p_at => k_is)
    (case p_get => k_is)
    (case p_tak => k_is)
    (case p_rec => k_is)
    (case p_hd => rfl)
    (case a_law_begun => k_is)
    (case d_law_begun => refine' RK.got_mk ?l ?c; (case l => k_is); (case c => k_is))
    (case k_law_begun => k_is)
    (case a_law_cast => k_is)
    (case d_law_cast => refine' RK.got_mk ?l ?c; (case l => k_is); (case c => k_is))
    (case k_law_cast => k_is)
    (case a_law_any => k_is)
    (case d_law_any => refine' RK.got_mk ?l ?c; (case l => k_is); (case c => k_is))
    (case k_law_any => k_is)
    (case a_law_row => k_is)
    (case d_law_row => refine' RK.got_mk ?l ?c; (case l => k_is); (case c => k_is))
    (case k_law_row => k_is)
    (case a_law_other => k_is)
    (case d_law_other => refine' RK.got_mk ?l ?c; (case l => k_is); (case c => k_is))
    (case k_law_other => k_is)
    (case a_law_has => k_is)
    (case d_law_has => refine' RK.got_mk ?l ?c; (case l => k_is); (case c => k_is))
    (case k_law_has => k_is)
    (case a_law_allH => k_is)
    (case d_law_allH => refine' RK.got_mk ?l ?c; (case l => k_is); (case c => k_is))
    (case k_law_allH => k_is)
    (case a_law_order => k_is)
    (case d_law_order => refine' RK.got_mk ?l ?c; (case l => k_is); (case c => k_is))
    (case k_law_order => k_is)
    (case a_law_rows => k_is)
    (case d_law_rows => refine' RK.got_mk ?l ?c; (case l => k_is); (case c => k_is))
    (case k_law_rows => k_is)
    (case a_law_words => k_is)
    (case d_law_words => refine' RK.got_mk ?l ?c; (case l => k_is); (case c => k_is))
    (case k_law_words => k_is)
    (case a_law_book => k_is)
    (case d_law_book => refine' RK.got_mk ?l ?c; (case l => k_is); (case c => k_is))
    (case k_law_book => k_is)
    (case a_law_said => k_is)
    (case d_law_said => refine' RK.got_mk ?l ?c; (case l => k_is); (case c => k_is))
    (case k_law_said => k_is)
    (case a_law_orders => k_is)
    (case d_law_orders => refine' RK.got_mk ?l ?c; (case l => k_is); (case c => k_is))
    (case k_law_orders => k_is)
    (case a_law_fit => k_is)
    (case d_law_fit => refine' RK.got_mk ?l ?c; (case l => k_is); (case c => k_is))
    (case k_law_fit => k_is)
    (case a_law_right => k_is)
    (case d_law_right => refine' RK.got_mk ?l ?c; (case l => k_is); (case c => k_is))
    (case k_law_right => k_is)
    (case a_law_law => k_is)
    (case d_law_law => refine' RK.got_mk ?l ?c; (case l => k_is); (case c => k_is))
    (case k_law_law => k_is)
    (case a_isName => k_is)
    (case d_isName => refine' RK.got_mk ?l ?c; (case l => k_is); (case c => k_is))
    (case k_isName => k_is)
    (case a_asc => k_is)
    (case d_asc => refine' RK.got_mk ?l ?c; (case l => k_is); (case c => k_is))
    (case k_asc => k_is)
    (case a_isRow => k_is)
    (case d_isRow => refine' RK.got_mk ?l ?c; (case l => k_is); (case c => k_is))
    (case k_isRow => k_is)
    (case a_names => k_is)
    (case d_names => refine' RK.got_mk ?l ?c; (case l => k_is); (case c => k_is))
    (case k_names => k_is)
    (case a_bookIn => k_is)
    (case d_bookIn => refine' RK.got_mk ?l ?c; (case l => k_is); (case c => k_is))
    (case k_bookIn => k_is)
    (case a_check => k_is)
    (case d_check => refine' RK.got_mk ?l ?c; (case l => k_is); (case c => k_is))
    (case k_check => k_is)
    (case a_waysOf => k_is)
    (case d_waysOf => refine' RK.got_mk ?l ?c; (case l => k_is); (case c => k_is))
    (case k_waysOf => k_is)
    (case a_cert => k_is)
    (case d_cert => refine' RK.got_mk ?l ?c; (case l => k_is); (case c => k_is))
    (case k_cert => k_is)
    (case a_isWord => k_is)
    (case d_isWord => refine' RK.got_mk ?l ?c; (case l => k_is); (case c => k_is))
    (case k_isWord => k_is)
    (case a_areW => k_is)
    (case d_areW => refine' RK.got_mk ?l ?c; (case l => k_is); (case c => k_is))
    (case k_areW => k_is)
    (case a_isLine => k_is)
    (case d_isLine => refine' RK.got_mk ?l ?c; (case l => k_is); (case c => k_is))
    (case k_isLine => k_is)
    (case a_read => k_is)
    (case d_read => refine' RK.got_mk ?l ?c; (case l => k_is); (case c => k_is))
    (case k_read => k_is)
    (case a_closed => k_is)
    (case d_closed => refine' RK.got_mk ?l ?c; (case l => k_is); (case c => k_is))
    (case k_closed => k_is)
    (case a_tally => k_is)
    (case d_tally => refine' RK.got_mk ?l ?c; (case l => k_is); (case c => k_is))
    (case k_tally => k_is)
    (case a_shC => k_is)
    (case d_shC => refine' RK.got_mk ?l ?c; (case l => k_is); (case c => k_is))
    (case k_shC => k_is)
    (case a_shB => k_is)
    (case d_shB => refine' RK.got_mk ?l ?c; (case l => k_is); (case c => k_is))
    (case k_shB => k_is)
    (case a_acc => k_is)
    (case d_acc => refine' RK.got_mk ?l ?c; (case l => k_is); (case c => k_is))
    (case k_acc => k_is)
    (case a_bInit => k_is)
    (case i_bInit => k_is)
    (case k_bInit => k_is)
    (case d_bInit => refine' RK.got_mk ?l ?c; (case l => k_is); (case c => k_is))
    (case d_bText => refine' RK.got_mk ?l ?c; (case l => k_is); (case c => k_is))
    (case a_wInit => k_is)
    (case i_wInit => k_is)
    (case k_wInit => k_is)
    (case d_wInit => refine' RK.got_mk ?l ?c; (case l => k_is); (case c => k_is))
    (case a_wCan => k_is)
    (case i_wCan => k_is)
    (case k_wCan => k_is)
    (case d_wCan => refine' RK.got_mk ?l ?c; (case l => k_is); (case c => k_is))
    (case a_wEnds => k_is)
    (case i_wEnds => k_is)
    (case k_wEnds => k_is)
    (case d_wEnds => refine' RK.got_mk ?l ?c; (case l => k_is); (case c => k_is))
    (case a_wCount => k_is)
    (case i_wCount => k_is)
    (case k_wCount => k_is)
    (case d_wCount => refine' RK.got_mk ?l ?c; (case l => k_is); (case c => k_is))
    (case z_len => k_is)
    (case z_all => k_is)
    (case z_any => k_is)
    (case z_range => k_is)
    (case z_sorted => k_is)
    (case z_tuple => k_is)
    (case z_list => k_is)
    (case z_set => k_is)
    (case z_sum => k_is)
    (case z_zip => k_is)
    (case z_isinstance => k_is)
    (case z_str => k_is)
    (case z_int => k_is)
    (case z_bool => k_is)
    (case z_abs => k_is)
    (case z_divmod => k_is)
    (case z_repr => k_is)
    (case z_max => k_is)
    (case z_min => k_is)
    (case v_LETTERS => k_is)
    (case r_LETTERS => exact ⟨_, rfl⟩)
    (case v_SMALL => k_is)
    (case r_SMALL => exact ⟨_, rfl⟩)
    (case v_SIGNS => k_is)
    (case r_SIGNS => exact ⟨_, rfl⟩)
    (case v_MOST_RULES => k_is)
    (case r_MOST_RULES => exact ⟨_, rfl⟩)
    (case v_MOST_ROWS => k_is)
    (case r_MOST_ROWS => exact ⟨_, rfl⟩)
    (case a_SIZES => k_is)
    (case l_SIZES => k_is)
    (case y_SIZES => exact ⟨⟨_, _, rfl, rfl⟩, ⟨_, _, rfl, rfl⟩, ⟨_, _, rfl, rfl⟩, ⟨_, _, rfl, rfl⟩, ⟨_, _, rfl, rfl⟩, ⟨_, _, rfl, rfl⟩, ⟨_, _, rfl, rfl⟩, ⟨_, _, rfl, rfl⟩, ⟨_, _, rfl, rfl⟩, trivial⟩)
    (case c_SIZES => k_is)
    (case rc_SIZES => exact ⟨_, rfl⟩)
    (case s_SIZES => decide)
    (case a_g1 => k_is)
    (case a_g2 => k_is)
    (case a_g4 => k_is))
