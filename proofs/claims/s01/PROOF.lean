import PyProof.Rows.All
import Wide.All
import OpenK.AllK
import Wide.FinOn
import PyProof.EqAt
import PyProof.EqKinds
import PyProof.TupleCall
import Open.SpecLaws
import KE.OsGo
import KE.KeyNested
import KE.KDictKeyed
import KE.DataMinMax
import KE.DataEq
import KE.DatumMoreOrd
import HandS.ForMost
import HandS.ForSpec
import HandS.Conv
import HandS.Deep
import HandS.Sort
import HandS.SortRule
import HandS.SortInts
import HandS.Walk
import PySem.Challenge.RW_openorder_s01_answers
set_option Elab.async false
set_option linter.all false
set_option maxRecDepth 100000
set_option maxHeartbeats 2000000
namespace Oo
open Or01

/-- x lies below y by what is told -/
inductive Bel (told : List (Nat × Nat)) : Nat → Nat → Prop where
  | one {x y : Nat} : (x, y) ∈ told → Bel told x y
  | more {x y z : Nat} : (x, y) ∈ told → Bel told y z → Bel told x z
theorem Bel.trans {told : List (Nat × Nat)} {x y z : Nat} (h : Bel told x y) (g : Bel told y z) : Bel told x z := by
  induction h with
  | one h => exact .more h g
  | more h _ ih => exact .more h (ih g)
theorem Bel.mono {t u : List (Nat × Nat)} (s : ∀ p ∈ t, p ∈ u) {x y : Nat} (h : Bel t x y) : Bel u x y := by
  induction h with
  | one h => exact .one (s _ h)
  | more h _ ih => exact .more (s _ h) ih
/-- the last step -/
theorem Bel.last {told : List (Nat × Nat)} {x y : Nat} (h : Bel told x y) : ∃ z, (z, y) ∈ told ∧ (x = z ∨ Bel told x z) := by
  induction h with
  | @one x y h => exact ⟨x, h, .inl rfl⟩
  | @more x y z h _ ih =>
    obtain ⟨u, hu, e⟩ := ih
    refine ⟨u, hu, .inr ?_⟩
    rcases e with rfl | e
    · exact .one h
    · exact .more h e

structure Good (o : Order) : Prop where
  pos : 1 ≤ o.many
  most : o.many ≤ 7
  ends : ∀ x y, (x, y) ∈ o.told → (1 ≤ x ∧ x ≤ o.many) ∧ (1 ≤ y ∧ y ≤ o.many)
  acyc : ∀ x, ¬ Bel o.told x x

theorem mem_things {o : Order} {x : Nat} : x ∈ things o ↔ 1 ≤ x ∧ x ≤ o.many := by
  unfold things
  simp only [List.mem_map, List.mem_range]
  constructor
  · rintro ⟨a, h, rfl⟩; omega
  · intro h; exact ⟨x - 1, by omega, by omega⟩
theorem things_len (o : Order) : (things o).length = o.many := by simp [things]
theorem things_lt (o : Order) : (things o).Pairwise (· < ·) := by
  unfold things
  rw [List.pairwise_map]
  exact List.pairwise_lt_range.imp fun h => by omega
theorem things_nodup (o : Order) : (things o).Nodup := (things_lt o).imp fun h => Nat.ne_of_lt h
theorem Good.fst {o : Order} (g : Good o) {x y : Nat} (h : Bel o.told x y) : x ∈ things o := by
  cases h with
  | one h => exact mem_things.mpr (g.ends _ _ h).1
  | more h _ => exact mem_things.mpr (g.ends _ _ h).1
theorem Good.snd {o : Order} (g : Good o) {x y : Nat} (h : Bel o.told x y) : y ∈ things o := by
  obtain ⟨z, hz, _⟩ := h.last
  exact mem_things.mpr (g.ends _ _ hz).2

def Steps (told : List (Nat × Nat)) : Nat → Nat → Nat → Prop
  | 0, x, y => x = y
  | k + 1, x, y => ∃ z, (x, z) ∈ told ∧ Steps told k z y

theorem up_succ (o : Order) (n : Nat) (l : List Nat) : up o (n + 1) l = up o n ((things o).filter fun y => l.contains y || l.any fun x => o.told.contains (x, y)) := rfl

theorem mem_up {o : Order} (g : ∀ x y, (x, y) ∈ o.told → (1 ≤ x ∧ x ≤ o.many) ∧ (1 ≤ y ∧ y ≤ o.many)) : ∀ (n : Nat) (l : List Nat) (y : Nat), (∀ x ∈ l, x ∈ things o) → (y ∈ up o n l ↔ ∃ x ∈ l, ∃ k, k ≤ n ∧ Steps o.told k x y)
  | 0, l, y, _ => by
    show y ∈ l ↔ _
    constructor
    · intro h; exact ⟨y, h, 0, Nat.le_refl _, rfl⟩
    · rintro ⟨x, hx, k, hk, s⟩
      have : k = 0 := by omega
      subst this
      have e : x = y := s
      rw [← e]; exact hx
  | n + 1, l, y, hl => by
    rw [up_succ]
    rw [mem_up g n _ y (fun x hx => (List.mem_filter.mp hx).1)]
    constructor
    · rintro ⟨x, hx, k, hk, s⟩
      rw [List.mem_filter] at hx
      obtain ⟨h1, h2⟩ := hx
      rw [Bool.or_eq_true, List.contains_iff_mem, List.any_eq_true] at h2
      rcases h2 with h2 | ⟨u, hu, h2⟩
      · exact ⟨x, h2, k, by omega, s⟩
      · rw [List.contains_iff_mem] at h2
        exact ⟨u, hu, k + 1, by omega, x, h2, s⟩
    · rintro ⟨x, hx, k, hk, s⟩
      have keep : ∀ z ∈ l, z ∈ (things o).filter fun y => l.contains y || l.any fun x => o.told.contains (x, y) := fun z hz => by
        rw [List.mem_filter, Bool.or_eq_true, List.contains_iff_mem]
        exact ⟨hl z hz, .inl hz⟩
      cases k with
      | zero => exact ⟨x, keep x hx, 0, by omega, s⟩
      | succ k =>
        obtain ⟨z, hz, s⟩ := s
        refine ⟨z, ?_, k, by omega, s⟩
        rw [List.mem_filter, Bool.or_eq_true, List.any_eq_true]
        refine ⟨mem_things.mpr (g _ _ hz).2, .inr ⟨x, hx, ?_⟩⟩
        rw [List.contains_iff_mem]; exact hz

theorem bel_of_steps {told : List (Nat × Nat)} : ∀ {k x y : Nat}, Steps told (k + 1) x y → Bel told x y
  | 0, x, y, ⟨z, h, e⟩ => by
    have e : z = y := e
    subst e; exact .one h
  | k + 1, x, y, ⟨z, h, s⟩ => .more h (bel_of_steps s)
/-- the way's stations -/
theorem way_of_bel {told : List (Nat × Nat)} {x y : Nat} (h : Bel told x y) : ∃ (k : Nat) (l : List Nat), Steps told (k + 1) x y ∧ l.length = k + 2 ∧ l.Pairwise (Bel told) ∧ (∀ z ∈ l, z = x ∨ Bel told x z) ∧ ∀ z ∈ l, z = y ∨ Bel told z y := by
  induction h with
  | @one x y h =>
    refine ⟨0, [x, y], ⟨y, h, rfl⟩, rfl, ?_, ?_, ?_⟩
    · simp only [List.pairwise_cons, List.mem_singleton, forall_eq, List.not_mem_nil, false_imp_iff, implies_true, List.Pairwise.nil, and_true]
      exact .one h
    · intro z hz
      simp only [List.mem_cons, List.not_mem_nil, or_false] at hz
      rcases hz with rfl | rfl
      · exact .inl rfl
      · exact .inr (.one h)
    · intro z hz
      simp only [List.mem_cons, List.not_mem_nil, or_false] at hz
      rcases hz with rfl | rfl
      · exact .inr (.one h)
      · exact .inl rfl
  | @more x y z h hb ih =>
    obtain ⟨k, l, s, hl, hp, hx, hy⟩ := ih
    have down : ∀ u ∈ l, Bel told x u := fun u hu => by
      rcases hx u hu with rfl | q
      · exact .one h
      · exact .more h q
    refine ⟨k + 1, x :: l, ⟨y, h, s⟩, by simp [hl], List.pairwise_cons.mpr ⟨down, hp⟩, ?_, ?_⟩
    · intro u hu
      rcases List.mem_cons.mp hu with rfl | hu
      · exact .inl rfl
      · exact .inr (down u hu)
    · intro u hu
      rcases List.mem_cons.mp hu with rfl | hu
      · exact .inr (.more h hb)
      · exact hy u hu

theorem below_iff {o : Order} (g : Good o) {x y : Nat} (hx : x ∈ things o) : below o x y = true ↔ Bel o.told x y := by
  unfold below
  rw [Bool.and_eq_true, List.contains_iff_mem, mem_up g.ends _ _ _ (fun z hz => by
    rw [List.mem_singleton] at hz; subst hz; exact hx)]
  constructor
  · rintro ⟨ne, z, hz, k, hk, s⟩
    rw [List.mem_singleton] at hz; subst hz
    cases k with
    | zero => simp at ne; exact absurd s ne
    | succ k => exact bel_of_steps s
  · intro h
    refine ⟨?_, x, List.mem_singleton.mpr rfl, ?_⟩
    · simp only [bne_iff_ne, ne_eq]
      rintro rfl
      exact g.acyc _ h
    · obtain ⟨k, l, s, hl, hp, hx, hy⟩ := way_of_bel h
      refine ⟨k + 1, ?_, s⟩
      have nd : l.Nodup := hp.imp fun {a b} q e => by subst e; exact g.acyc _ q
      have := List.Nodup.length_le_of_subset nd (l₂ := things o) fun z hz => by
        rcases hx z hz with rfl | q
        · assumption
        · exact g.snd q
      rw [things_len, hl] at this
      omega
theorem below_iff' {o : Order} (g : Good o) {x y : Nat} (hx : x ∈ things o) : below o x y = false ↔ ¬ Bel o.told x y := by
  rw [← below_iff g hx]; simp
theorem below_self (o : Order) (x : Nat) : below o x x = false := by simp [below]
theorem bel_nil {x y : Nat} : ¬ Bel [] x y := fun h => by
  cases h with
  | one h => exact nomatch h
  | more h _ => exact nomatch h
theorem good_new {n : Nat} (h1 : 1 ≤ n) (h7 : n ≤ 7) : Good ⟨n, []⟩ := ⟨h1, h7, fun _ _ h => (nomatch h), fun x h => bel_nil h⟩
theorem bel_with {told : List (Nat × Nat)} {x y a b : Nat} (h : Bel (told ++ [(x, y)]) a b) : Bel told a b ∨ ((a = x ∨ Bel told a x) ∧ (y = b ∨ Bel told y b)) := by
  induction h with
  | @one a b h =>
    rcases List.mem_append.mp h with h | h
    · exact .inl (.one h)
    · rw [List.mem_singleton] at h
      cases h
      exact .inr ⟨.inl rfl, .inl rfl⟩
  | @more a c b h0 _ ih =>
    rcases List.mem_append.mp h0 with h1 | h1
    · rcases ih with q | ⟨q, r⟩
      · exact .inl (.more h1 q)
      · refine .inr ⟨.inr ?_, r⟩
        rcases q with rfl | q
        · exact .one h1
        · exact .more h1 q
    · rw [List.mem_singleton] at h1
      cases h1
      refine .inr ⟨.inl rfl, ?_⟩
      rcases ih with q | ⟨_, r⟩
      · exact .inr q
      · exact r
theorem good_with {o : Order} (g : Good o) {x y : Nat} (hx : x ∈ things o) (hy : y ∈ things o) (ne : x ≠ y) (nb : ¬ Bel o.told y x) : Good (with_ o x y) := by
  refine ⟨g.pos, g.most, fun a b h => ?_, fun a h => ?_⟩
  · rcases List.mem_append.mp h with h | h
    · exact g.ends a b h
    · rw [List.mem_singleton] at h
      cases h
      exact ⟨mem_things.mp hx, mem_things.mp hy⟩
  · rcases bel_with h with h | ⟨h1, h2⟩
    · exact g.acyc a h
    · rcases h1 with rfl | h1
      · rcases h2 with rfl | h2
        · exact ne rfl
        · exact nb h2
      · rcases h2 with rfl | h2
        · exact nb h1
        · exact nb (h2.trans h1)
theorem good_undo {o : Order} (g : Good o) : Good { o with told := o.told.dropLast } := by
  refine ⟨g.pos, g.most, fun a b h => g.ends a b (List.dropLast_sublist _ |>.subset h), fun a h => g.acyc a (h.mono fun p hp => List.dropLast_sublist _ |>.subset hp)⟩
end Oo
namespace Oo
open Or01

/-- a thing that may stand next in a row -/
def okn (o : Order) (row : List Nat) (t : Nat) : Bool := !row.contains t && (things o).all fun x => !below o x t || row.contains x
/-- the rows' beginnings, as the program builds them -/
def pre (o : Order) : Nat → List (List Nat)
  | 0 => [[]]
  | k + 1 => (pre o k).flatMap fun row => ((things o).filter (okn o row)).map fun t => row ++ [t]
def ext (o : Order) : Nat → List Nat → List (List Nat)
  | 0, r => [r]
  | j + 1, r => ((things o).filter (okn o r)).flatMap fun t => ext o j (r ++ [t])
theorem pre_ext (o : Order) : ∀ (j k : Nat), (pre o k).flatMap (ext o j) = pre o (k + j)
  | 0, k => by
    show (pre o k).flatMap (fun r => [r]) = pre o k
    simp
  | j + 1, k => by
    have e : (pre o k).flatMap (ext o (j + 1)) = (pre o (k + 1)).flatMap (ext o j) := by
      show (pre o k).flatMap (fun r => ((things o).filter (okn o r)).flatMap fun t => ext o j (r ++ [t])) = ((pre o k).flatMap fun row => ((things o).filter (okn o row)).map fun t => row ++ [t]).flatMap (ext o j)
      rw [List.flatMap_assoc]
      congr 1
      funext r
      rw [List.flatMap_map]
    rw [e, pre_ext o j (k + 1)]
    congr 1
    omega
theorem ext_rows (o : Order) : ∀ (j : Nat) (r : List Nat), ext o j r = (rowsOf (below o) j ((things o).filter fun t => !r.contains t)).map fun q => r ++ q
  | 0, r => by simp [ext, rowsOf]
  | j + 1, r => by
    show ((things o).filter (okn o r)).flatMap (fun t => ext o j (r ++ [t])) = _
    simp only [ext_rows o j]
    show _ = List.map (fun q => r ++ q) ((((things o).filter fun t => !r.contains t).filter fun x => ((things o).filter fun t => !r.contains t).all fun y => !below o y x).flatMap fun x => (rowsOf (below o) j (((things o).filter fun t => !r.contains t).filter fun y => y != x)).map fun r => x :: r)
    rw [List.map_flatMap, List.filter_filter]
    have e1 : (things o).filter (okn o r) = (things o).filter (fun a => ((things o).filter fun t => !r.contains t).all (fun y => !below o y a) && !r.contains a) := by
      congr 1
      funext t
      unfold okn
      rw [Bool.and_comm]
      congr 1
      rw [List.all_filter]
      congr 1
      funext x
      cases below o x t <;> cases r.contains x <;> rfl
    rw [e1]
    congr 1
    funext x
    rw [List.map_map, List.filter_filter]
    have e2 : ((things o).filter fun t => !(r ++ [x]).contains t) = (things o).filter (fun a => a != x && !r.contains a) := by
      congr 1
      funext t
      rw [List.contains_eq_any_beq, List.contains_eq_any_beq, List.any_append]
      simp only [List.any_cons, List.any_nil, Bool.or_false, Bool.not_or]
      rw [Bool.and_comm]
      rfl
    rw [e2]
    congr 1
    funext q
    simp
theorem rowsOf_congr {b c : Nat → Nat → Bool} : ∀ (n : Nat) (l : List Nat), (∀ x ∈ l, ∀ y ∈ l, b x y = c x y) → rowsOf b n l = rowsOf c n l
  | 0, l, _ => rfl
  | n + 1, l, h => by
    show ((l.filter fun x => l.all fun y => !b y x).flatMap fun x => (rowsOf b n (l.filter fun y => y != x)).map fun r => x :: r) = ((l.filter fun x => l.all fun y => !c y x).flatMap fun x => (rowsOf c n (l.filter fun y => y != x)).map fun r => x :: r)
    have e1 : (l.filter fun x => l.all fun y => !b y x) = l.filter fun x => l.all fun y => !c y x := by
      apply List.filter_congr
      intro x hx
      have : ∀ m : List Nat, (∀ y ∈ m, y ∈ l) → (m.all fun y => !b y x) = m.all fun y => !c y x := by
        intro m
        induction m with
        | nil => intro _; rfl
        | cons a m ih =>
          intro hm
          rw [List.all_cons, List.all_cons, ih (fun y hy => hm y (List.mem_cons_of_mem _ hy)), h a (hm a List.mem_cons_self) x hx]
      exact this l fun _ hy => hy
    rw [e1]
    have e2 : ∀ x, rowsOf b n (l.filter fun y => y != x) = rowsOf c n (l.filter fun y => y != x) := fun x => rowsOf_congr n _ fun a ha d hd => h a (List.mem_filter.mp ha).1 d (List.mem_filter.mp hd).1
    simp only [e2]
theorem rows_below (o : Order) : rows o = rowsOf (below o) o.many (things o) := by
  unfold rows
  refine rowsOf_congr _ _ fun x hx y hy => ?_
  cases e : below o x y with
  | true =>
    rw [List.contains_iff_mem, List.mem_flatMap]
    exact ⟨x, hx, List.mem_map.mpr ⟨y, List.mem_filter.mpr ⟨hy, e⟩, rfl⟩⟩
  | false =>
    rw [← Bool.not_eq_true, List.contains_iff_mem, List.mem_flatMap]
    rintro ⟨a, _, h⟩
    obtain ⟨d, hd, q⟩ := List.mem_map.mp h
    cases q
    rw [(List.mem_filter.mp hd).2] at e
    cases e
/-- the rows that the program builds are the specification's -/
theorem pre_rows (o : Order) : pre o o.many = rows o := by
  have h := pre_ext o o.many 0
  rw [Nat.zero_add] at h
  rw [← h, rows_below]
  show ([[]] : List (List Nat)).flatMap (ext o o.many) = _
  rw [List.flatMap_cons, List.flatMap_nil, List.append_nil, ext_rows]
  have e : ((things o).filter fun t => !([] : List Nat).contains t) = things o := List.filter_eq_self.mpr fun a _ => rfl
  rw [e]
  simp
theorem pre_len (o : Order) (h7 : o.many ≤ 7) : ∀ k, (pre o k).length ≤ 7 ^ k
  | 0 => by simp [pre]
  | k + 1 => by
    have ih := pre_len o h7 k
    show ((pre o k).flatMap fun row => ((things o).filter (okn o row)).map fun t => row ++ [t]).length ≤ 7 ^ (k + 1)
    have : ∀ l : List (List Nat), (l.flatMap fun row => ((things o).filter (okn o row)).map fun t => row ++ [t]).length ≤ 7 * l.length := by
      intro l
      induction l with
      | nil => simp
      | cons a l ih =>
        rw [List.flatMap_cons, List.length_append, List.length_map, List.length_cons]
        have h1 := List.length_filter_le (okn o a) (things o)
        rw [things_len] at h1
        omega
    have := this (pre o k)
    rw [Nat.pow_succ]
    omega

/-! ### places -/
theorem place_cons_self (x : Nat) (r : List Nat) : place (x :: r) x = 0 := by simp [place]
theorem place_cons_ne {x y : Nat} (r : List Nat) (h : y ≠ x) : place (y :: r) x = place r x + 1 := by
  unfold place
  rw [List.takeWhile_cons, if_pos (by simp [h])]
  rfl
theorem place_lt {r : List Nat} {x : Nat} (h : x ∈ r) : place r x < r.length := by
  induction r with
  | nil => cases h
  | cons y r ih =>
    by_cases e : y = x
    · subst e; rw [place_cons_self]; simp
    · rw [place_cons_ne _ e]
      have := ih ((List.mem_cons.mp h).resolve_left fun q => e q.symm)
      simp; omega
theorem place_get {r : List Nat} {x : Nat} (h : x ∈ r) : r[place r x]? = some x := by
  induction r with
  | nil => cases h
  | cons y r ih =>
    by_cases e : y = x
    · subst e; rw [place_cons_self]; rfl
    · rw [place_cons_ne _ e, List.getElem?_cons_succ]
      exact ih ((List.mem_cons.mp h).resolve_left fun q => e q.symm)
theorem place_first {r : List Nat} {x : Nat} : ∀ {m : Nat} {z : Nat}, m < place r x → r[m]? = some z → z ≠ x := by
  induction r with
  | nil => intro m z h; simp [place] at h
  | cons y r ih =>
    intro m z h e
    by_cases c : y = x
    · subst c; rw [place_cons_self] at h; omega
    · rw [place_cons_ne _ c] at h
      cases m with
      | zero => simp at e; rw [← e]; exact c
      | succ m => rw [List.getElem?_cons_succ] at e; exact ih (by omega) e
theorem place_inj {r : List Nat} {x y : Nat} (hx : x ∈ r) (hy : y ∈ r) (e : place r x = place r y) : x = y := by
  have a := place_get hx
  have b := place_get hy
  rw [e, b] at a
  exact (Option.some.inj a).symm
/-- a pairwise claim by places -/
theorem pairwise_place {R : Nat → Nat → Prop} : ∀ {r : List Nat}, r.Nodup → (r.Pairwise R ↔ ∀ x ∈ r, ∀ y ∈ r, place r x < place r y → R x y)
  | [], _ => by simp
  | a :: r, nd => by
    rw [List.nodup_cons] at nd
    rw [List.pairwise_cons, pairwise_place nd.2]
    have ne : ∀ y ∈ r, a ≠ y := fun y hy e => nd.1 (e ▸ hy)
    constructor
    · rintro ⟨h1, h2⟩ x hx y hy h
      rcases List.mem_cons.mp hx with rfl | hx
      · rcases List.mem_cons.mp hy with rfl | hy
        · omega
        · exact h1 y hy
      · rcases List.mem_cons.mp hy with rfl | hy
        · rw [place_cons_self] at h; omega
        · rw [place_cons_ne _ (ne x hx), place_cons_ne _ (ne y hy)] at h
          exact h2 x hx y hy (by omega)
    · intro h
      refine ⟨fun y hy => h a List.mem_cons_self y (List.mem_cons_of_mem _ hy) ?_, fun x hx y hy q => h x (List.mem_cons_of_mem _ hx) y (List.mem_cons_of_mem _ hy) ?_⟩
      · rw [place_cons_self, place_cons_ne _ (ne y hy)]; omega
      · rw [place_cons_ne _ (ne x hx), place_cons_ne _ (ne y hy)]; omega

/-! ### which rows there are -/
theorem mem_rowsOf {b : Nat → Nat → Bool} (hb : ∀ x, b x x = false) : ∀ (n : Nat) (l : List Nat), l.Nodup → l.length = n → ∀ r, (r ∈ rowsOf b n l ↔ r.Perm l ∧ r.Pairwise fun x y => b y x = false)
  | 0, l, nd, hl, r => by
    have e : l = [] := List.length_eq_zero_iff.mp hl
    subst e
    show r ∈ [[]] ↔ _
    rw [List.mem_singleton]
    constructor
    · rintro rfl; exact ⟨.refl _, .nil⟩
    · rintro ⟨h, _⟩; exact h.eq_nil
  | n + 1, l, nd, hl, r => by
    show r ∈ ((l.filter fun x => l.all fun y => !b y x).flatMap fun x => (rowsOf b n (l.filter fun y => y != x)).map fun r => x :: r) ↔ _
    rw [List.mem_flatMap]
    have key : ∀ x ∈ l, (l.filter (fun y => y != x)).Nodup ∧ (l.filter (fun y => y != x)).length = n ∧ (x :: l.filter (fun y => y != x)).Perm l := fun x hx => by
      have p : (x :: l.erase x).Perm l := (List.perm_cons_erase hx).symm
      rw [nd.erase_eq_filter] at p
      refine ⟨nd.filter _, ?_, p⟩
      have := p.length_eq
      rw [hl] at this
      simpa using this
    constructor
    · rintro ⟨x, hx, h⟩
      rw [List.mem_filter, List.all_eq_true] at hx
      obtain ⟨hx, hm⟩ := hx
      obtain ⟨k1, k2, k3⟩ := key x hx
      obtain ⟨q, hq, rfl⟩ := List.mem_map.mp h
      rw [mem_rowsOf hb n _ k1 k2] at hq
      refine ⟨(hq.1.cons x).trans k3, List.pairwise_cons.mpr ⟨fun y hy => ?_, hq.2⟩⟩
      have := hm y (List.mem_filter.mp (hq.1.subset hy)).1
      simpa using this
    · rintro ⟨hp, hw⟩
      cases r with
      | nil => have := hp.length_eq; rw [hl] at this; simp at this
      | cons x q =>
        have hx : x ∈ l := hp.subset List.mem_cons_self
        obtain ⟨k1, k2, k3⟩ := key x hx
        rw [List.pairwise_cons] at hw
        have hq : q.Perm (l.filter fun y => y != x) := List.Perm.cons_inv (hp.trans k3.symm)
        refine ⟨x, ?_, List.mem_map.mpr ⟨q, (mem_rowsOf hb n _ k1 k2 q).mpr ⟨hq, hw.2⟩, rfl⟩⟩
        rw [List.mem_filter, List.all_eq_true]
        refine ⟨hx, fun y hy => ?_⟩
        rcases List.mem_cons.mp (hp.symm.subset hy) with rfl | hy
        · rw [hb]; rfl
        · rw [hw.1 y hy]; rfl
theorem mem_rows' {o : Order} {r : List Nat} : r ∈ rows o ↔ r.Perm (things o) ∧ r.Pairwise fun x y => below o y x = false := by
  rw [rows_below]
  exact mem_rowsOf (below_self o) _ _ (things_nodup o) (things_len o) r
theorem mem_rows {o : Order} (g : Good o) {r : List Nat} : r ∈ rows o ↔ r.Perm (things o) ∧ ∀ x y, (x, y) ∈ o.told → place r x < place r y := by
  rw [mem_rows']
  refine and_congr_right fun hp => ?_
  have nd : r.Nodup := hp.symm.nodup (things_nodup o)
  rw [pairwise_place nd]
  constructor
  · intro h x y ht
    have hb : Bel o.told x y := .one ht
    have hx := hp.symm.subset (g.fst hb)
    have hy := hp.symm.subset (g.snd hb)
    rcases Nat.lt_trichotomy (place r x) (place r y) with q | q | q
    · exact q
    · have := place_inj hx hy q
      subst this
      exact absurd hb (g.acyc _)
    · have := h y hy x hx q
      rw [below_iff' g (g.fst hb)] at this
      exact absurd hb this
  · intro h x hx y hy q
    rw [below_iff' g (hp.subset hy)]
    intro hb
    have : ∀ {a b}, Bel o.told a b → place r a < place r b := fun {a b} hb => by
      induction hb with
      | one h' => exact h _ _ h'
      | more h' _ ih => exact Nat.lt_trans (h _ _ h') ih
    have := this hb
    omega
theorem rows_ahead {o : Order} (g : Good o) {r : List Nat} (hr : r ∈ rows o) {x y : Nat} (hb : Bel o.told x y) : place r x < place r y := by
  have h := ((mem_rows g).mp hr).2
  induction hb with
  | one h' => exact h _ _ h'
  | more h' _ ih => exact Nat.lt_trans (h _ _ h') ih
theorem rows_perm {o : Order} {r : List Nat} (hr : r ∈ rows o) : r.Perm (things o) := (mem_rows'.mp hr).1

/-! ### in order -/
def LLt : List Nat → List Nat → Prop := List.Lex (· < ·)
theorem LLt.irrefl : ∀ r : List Nat, ¬ LLt r r
  | a :: r, h => by
    cases h with
    | rel h => exact Nat.lt_irrefl _ h
    | cons h => exact LLt.irrefl r h
theorem LLt.asymm : ∀ {r s : List Nat}, LLt r s → LLt s r → False
  | [], _, _, h => by cases h
  | a :: r, b :: s, h, k => by
    cases h with
    | rel h =>
      cases k with
      | rel k => omega
      | cons k => omega
    | cons h =>
      cases k with
      | rel k => omega
      | cons k => exact LLt.asymm h k
theorem rowsOf_sorted {b : Nat → Nat → Bool} : ∀ (n : Nat) (l : List Nat), l.Pairwise (· < ·) → (rowsOf b n l).Pairwise LLt
  | 0, l, _ => by simp [rowsOf]
  | n + 1, l, h => by
    show ((l.filter fun x => l.all fun y => !b y x).flatMap fun x => (rowsOf b n (l.filter fun y => y != x)).map fun r => x :: r).Pairwise LLt
    rw [List.pairwise_flatMap]
    refine ⟨fun x _ => ?_, ?_⟩
    · rw [List.pairwise_map]
      exact (rowsOf_sorted n _ (h.filter _)).imp fun q => .cons q
    · refine (h.filter _).imp fun {x y} q => ?_
      intro u hu v hv
      obtain ⟨u, _, rfl⟩ := List.mem_map.mp hu
      obtain ⟨v, _, rfl⟩ := List.mem_map.mp hv
      exact .rel q
theorem rows_sorted (o : Order) : (rows o).Pairwise LLt := rowsOf_sorted _ _ (things_lt o)
theorem nodup_of_sorted {l : List (List Nat)} (h : l.Pairwise LLt) : l.Nodup := by
  refine List.Pairwise.imp ?_ h
  intro a b q e
  subst e
  exact LLt.irrefl _ q
theorem rows_nodup (o : Order) : (rows o).Nodup := nodup_of_sorted (rows_sorted o)
/-- two lists in order with the same members are one -/
theorem sorted_same {l m : List (List Nat)} (hl : l.Pairwise LLt) (hm : m.Pairwise LLt) (h : ∀ r, r ∈ l ↔ r ∈ m) : l = m := by
  have nl : l.Nodup := nodup_of_sorted hl
  have nm : m.Nodup := nodup_of_sorted hm
  have p : l.Perm m := (List.perm_ext_iff_of_nodup nl nm).mpr h
  exact p.eq_of_pairwise (fun a b _ _ h k => (LLt.asymm h k).elim) hl hm

/-! ### there are rows -/
theorem least_of {R : Nat → Nat → Prop} (tr : ∀ a b c, R a b → R b c → R a c) (ir : ∀ a, ¬ R a a) (l : List Nat) : ∀ (m : Nat) (x : Nat), x ∈ l → (∃ k : List Nat, k.length ≤ m ∧ k.Nodup ∧ (∀ y ∈ k, y ∈ l) ∧ ∀ y ∈ l, R y x → y ∈ k) → ∃ z ∈ l, ∀ y ∈ l, ¬ R y z
  | m, x, hx, ⟨k, hk, nd, hs, hc⟩ => by
    by_cases h : ∃ y ∈ l, R y x
    · obtain ⟨y, hy, r⟩ := h
      cases m with
      | zero =>
        have : k = [] := List.length_eq_zero_iff.mp (by omega)
        subst this
        exact nomatch hc y hy r
      | succ m =>
        have hyk := hc y hy r
        refine least_of tr ir l m y hy ⟨k.erase y, ?_, nd.erase _, fun z hz => hs z (List.mem_of_mem_erase hz), fun z hz q => ?_⟩
        · rw [List.length_erase_of_mem hyk]; omega
        · exact (nd.mem_erase_iff).mpr ⟨fun e => ir y (by subst e; exact q), hc z hz (tr _ _ _ q r)⟩
    · exact ⟨x, hx, fun y hy r => h ⟨y, hy, r⟩⟩
theorem rowsOf_ne {b : Nat → Nat → Bool} (R : Nat → Nat → Prop) (tr : ∀ a b c, R a b → R b c → R a c) (ir : ∀ a, ¬ R a a) : ∀ (n : Nat) (l : List Nat), (∀ x ∈ l, ∀ y ∈ l, b x y = true → R x y) → l.Nodup → l.length = n → rowsOf b n l ≠ []
  | 0, l, _, _, _ => by simp [rowsOf]
  | n + 1, l, hb, nd, hl => by
    cases l with
    | nil => simp at hl
    | cons a q =>
      obtain ⟨z, hz, hm⟩ := least_of tr ir (a :: q) (a :: q).length a List.mem_cons_self ⟨a :: q, Nat.le_refl _, nd, fun _ h => h, fun _ h _ => h⟩
      generalize hL : a :: q = L at *
      have p : (z :: L.erase z).Perm L := (List.perm_cons_erase hz).symm
      rw [nd.erase_eq_filter] at p
      have hlen : (L.filter (fun y => y != z)).length = n := by
        have := p.length_eq
        rw [hl] at this
        simpa using this
      have ih := rowsOf_ne R tr ir n (L.filter fun y => y != z) (fun x hx y hy => hb x (List.mem_filter.mp hx).1 y (List.mem_filter.mp hy).1) (nd.filter _) hlen
      intro e
      have : ∀ r, r ∉ ((L.filter fun x => L.all fun y => !b y x).flatMap fun x => (rowsOf b n (L.filter fun y => y != x)).map fun r => x :: r) := fun r hr => by
        have e' : ((L.filter fun x => L.all fun y => !b y x).flatMap fun x => (rowsOf b n (L.filter fun y => y != x)).map fun r => x :: r) = [] := e
        rw [e'] at hr
        cases hr
      obtain ⟨r, hr⟩ := List.exists_mem_of_ne_nil _ ih
      refine this (z :: r) (List.mem_flatMap.mpr ⟨z, ?_, List.mem_map.mpr ⟨r, hr, rfl⟩⟩)
      rw [List.mem_filter, List.all_eq_true]
      refine ⟨hz, fun y hy => ?_⟩
      cases e : b y z with
      | false => rfl
      | true => exact absurd (hb y hy z hz e) (hm y hy)
theorem rows_ne {o : Order} (g : Good o) : rows o ≠ [] := by
  rw [rows_below]
  exact rowsOf_ne (Bel o.told) (fun _ _ _ h k => h.trans k) g.acyc _ _ (fun x hx y _ h => (below_iff g hx).mp h) (things_nodup o) (things_len o)
theorem rows_pos {o : Order} (g : Good o) : 0 < (rows o).length := List.length_pos_iff.mpr (rows_ne g)
/-- one pair more is told: the rows in which it stands so -/
theorem rows_with {o : Order} (g : Good o) {x y : Nat} (g' : Good (with_ o x y)) : rows (with_ o x y) = (rows o).filter fun r => decide (place r x < place r y) := by
  refine sorted_same (rows_sorted _) ((rows_sorted o).filter _) fun r => ?_
  rw [List.mem_filter, mem_rows g', mem_rows g]
  have e : things (with_ o x y) = things o := rfl
  rw [e]
  constructor
  · rintro ⟨h1, h2⟩
    exact ⟨⟨h1, fun a b h => h2 a b (List.mem_append_left _ h)⟩, decide_eq_true (h2 x y (List.mem_append_right _ (List.mem_singleton.mpr rfl)))⟩
  · rintro ⟨⟨h1, h2⟩, h3⟩
    refine ⟨h1, fun a b h => ?_⟩
    rcases List.mem_append.mp h with h | h
    · exact h2 a b h
    · rw [List.mem_singleton] at h
      cases h
      exact of_decide_eq_true h3
theorem rows_len {o : Order} (g : Good o) : (rows o).length ≤ 823543 := by
  rw [← pre_rows]
  have h := pre_len o g.most o.many
  have : 7 ^ o.many ≤ 7 ^ 7 := Nat.pow_le_pow_right (by decide) g.most
  have e : 7 ^ 7 = 823543 := by decide
  omega
end Oo
namespace Oo
open Or01

/-! ### fractions -/
def shareN (a b : Nat) : List Nat := [a / Nat.gcd a b, b / Nat.gcd a b]
theorem fraction_div (a b : Nat) (hb : 0 < b) : fraction ((a : Rat) / (b : Rat)) = Or01.ints (shareN a b) := by
  have e : (a : Rat) / (b : Rat) = mkRat (a : Int) b := (Rat.mkRat_eq_div (a : Int) b).symm
  rw [e]
  unfold fraction
  rw [Rat.num_mkRat, Rat.den_mkRat, if_neg (by omega), if_neg (by omega)]
  show [((a : Int) / ((Nat.gcd b (Int.natAbs (a : Int)) : Nat) : Int)), ((b / Nat.gcd b (Int.natAbs (a : Int)) : Nat) : Int)] = [((a / Nat.gcd a b : Nat) : Int), ((b / Nat.gcd a b : Nat) : Int)]
  rw [Int.natAbs_natCast, Nat.gcd_comm b a]
  rfl
theorem part_eq {l : List (List Nat)} (f : List Nat → Bool) (h : 0 < l.length) : part l f = ((l.filter f).length : Rat) / (l.length : Rat) := by
  unfold part
  rw [if_neg (by omega)]
theorem fraction_part {l : List (List Nat)} (f : List Nat → Bool) (h : 0 < l.length) : fraction (part l f) = Or01.ints (shareN (l.filter f).length l.length) := by
  rw [part_eq f h]
  exact fraction_div _ _ h
theorem div_lt_div {a c b : Nat} (hb : 0 < b) : ((a : Rat) / (b : Rat) < (c : Rat) / (b : Rat)) ↔ a < c := by
  have hb' : (0 : Rat) < (b : Rat) := Rat.natCast_pos.mpr hb
  have hb0 : (b : Rat) ≠ 0 := Rat.ne_of_gt hb'
  constructor
  · intro h
    have := Rat.mul_lt_mul_of_pos_right h hb'
    rw [Rat.div_mul_cancel hb0, Rat.div_mul_cancel hb0] at this
    exact Rat.natCast_lt_natCast.mp this
  · intro h
    rcases Rat.le_total (a := (c : Rat) / (b : Rat)) (b := (a : Rat) / (b : Rat)) with q | q
    · have := Rat.mul_le_mul_of_nonneg_right q (Rat.le_of_lt hb')
      rw [Rat.div_mul_cancel hb0, Rat.div_mul_cancel hb0] at this
      have := Rat.natCast_le_natCast.mp this
      omega
    · refine Rat.lt_of_le_of_ne q fun e => ?_
      have := congrArg (· * (b : Rat)) e
      simp only [Rat.div_mul_cancel hb0] at this
      have h' : (a : Rat) < (c : Rat) := Rat.natCast_lt_natCast.mpr h
      rw [this] at h'
      exact Rat.lt_irrefl h'
/-- how far from a half, in whole numbers -/
def offN (a b : Nat) : Nat := (2 * (a : Int) - (b : Int)).natAbs
theorem far_div (a b : Nat) (hb : 0 < b) : far ((a : Rat) / (b : Rat)) = (offN a b : Rat) / ((2 * b : Nat) : Rat) := by
  have hb' : (0 : Rat) < (b : Rat) := Rat.natCast_pos.mpr hb
  have h2 : (0 : Rat) < ((2 * b : Nat) : Rat) := Rat.natCast_pos.mpr (by omega)
  have hx : (a : Rat) / (b : Rat) * (b : Rat) = (a : Rat) := Rat.div_mul_cancel (Rat.ne_of_gt hb')
  have hy : (offN a b : Rat) / ((2 * b : Nat) : Rat) * ((2 * b : Nat) : Rat) = (offN a b : Rat) := Rat.div_mul_cancel (Rat.ne_of_gt h2)
  generalize (a : Rat) / (b : Rat) = x at *
  generalize (offN a b : Rat) / ((2 * b : Nat) : Rat) = y at *
  have e2 : ((2 * b : Nat) : Rat) = 2 * (b : Rat) := by rw [Rat.natCast_mul]; rfl
  have key : ∀ z : Rat, z * ((2 * b : Nat) : Rat) = (offN a b : Rat) → z = y := fun z hz => by
    rw [← hy] at hz
    have := congrArg (· * ((2 * b : Nat) : Rat)⁻¹) hz
    simp only [Rat.mul_assoc, Rat.mul_inv_cancel _ (Rat.ne_of_gt h2), Rat.mul_one] at this
    exact this
  unfold far
  by_cases c : 2 * a < b
  · have hlt : x < 1 / 2 := by
      rcases Rat.le_total (a := (1 / 2 : Rat)) (b := x) with q | q
      · exfalso
        have := Rat.mul_le_mul_of_nonneg_right q (Rat.le_of_lt hb')
        rw [hx] at this
        have h3 : ((2 * a : Nat) : Rat) < (b : Rat) := Rat.natCast_lt_natCast.mpr c
        rw [Rat.natCast_mul] at h3
        have h4 : ((2 : Nat) : Rat) = 2 := rfl
        rw [h4] at h3
        grind
      · refine Rat.lt_of_le_of_ne q fun e => ?_
        rw [e] at hx
        have h3 : ((2 * a : Nat) : Rat) < (b : Rat) := Rat.natCast_lt_natCast.mpr c
        rw [Rat.natCast_mul] at h3
        have h4 : ((2 : Nat) : Rat) = 2 := rfl
        rw [h4] at h3
        grind
    rw [if_pos hlt]
    apply key
    have eo : offN a b = b - 2 * a := by unfold offN; omega
    have e3 : ((offN a b : Nat) : Rat) + ((2 * a : Nat) : Rat) = (b : Rat) := by
      rw [← Rat.natCast_add, eo]
      congr 1
      omega
    rw [Rat.natCast_mul] at e3
    have h4 : ((2 : Nat) : Rat) = 2 := rfl
    rw [h4] at e3
    rw [e2]
    grind
  · have hge : ¬ x < 1 / 2 := fun q => by
      have := Rat.mul_lt_mul_of_pos_right q hb'
      rw [hx] at this
      have h3 : (b : Rat) ≤ ((2 * a : Nat) : Rat) := Rat.natCast_le_natCast.mpr (by omega)
      rw [Rat.natCast_mul] at h3
      have h4 : ((2 : Nat) : Rat) = 2 := rfl
      rw [h4] at h3
      grind
    rw [if_neg hge]
    apply key
    have eo : offN a b = 2 * a - b := by unfold offN; omega
    have e3 : ((offN a b : Nat) : Rat) + (b : Rat) = ((2 * a : Nat) : Rat) := by
      rw [← Rat.natCast_add, eo]
      congr 1
      omega
    rw [Rat.natCast_mul] at e3
    have h4 : ((2 : Nat) : Rat) = 2 := rfl
    rw [h4] at e3
    rw [e2]
    grind
theorem far_lt {a c b : Nat} (hb : 0 < b) : far ((a : Rat) / (b : Rat)) < far ((c : Rat) / (b : Rat)) ↔ offN a b < offN c b := by
  rw [far_div a b hb, far_div c b hb]
  exact div_lt_div (by omega)

/-! ### the fairest question -/
def PLt (p q : Nat × Nat) : Prop := p.1 < q.1 ∨ (p.1 = q.1 ∧ p.2 < q.2)
theorem PLt.trans {p q r : Nat × Nat} (h : PLt p q) (k : PLt q r) : PLt p r := by unfold PLt at *; omega
theorem pairs_sorted (o : Order) (f : Nat → Nat → Bool) : ((things o).flatMap fun x => ((things o).filter fun y => f x y).map fun y => (x, y)).Pairwise PLt := by
  rw [List.pairwise_flatMap]
  refine ⟨fun x _ => ?_, ?_⟩
  · rw [List.pairwise_map]
    exact ((things_lt o).filter _).imp fun q => .inr ⟨rfl, q⟩
  · refine (things_lt o).imp fun {x y} q => ?_
    intro u hu v hv
    obtain ⟨_, _, rfl⟩ := List.mem_map.mp hu
    obtain ⟨_, _, rfl⟩ := List.mem_map.mp hv
    exact .inl q
theorem open_sorted (o : Order) : (open_ o).Pairwise PLt := pairs_sorted o _
theorem mem_open {o : Order} {x y : Nat} : (x, y) ∈ open_ o ↔ x ∈ things o ∧ y ∈ things o ∧ x < y ∧ below o x y = false ∧ below o y x = false := by
  unfold open_
  rw [List.mem_flatMap]
  constructor
  · rintro ⟨a, ha, h⟩
    obtain ⟨b, hb, e⟩ := List.mem_map.mp h
    cases e
    rw [List.mem_filter] at hb
    simp at hb
    exact ⟨ha, hb.1, hb.2.1, hb.2.2⟩
  · rintro ⟨h1, h2, h3, h4, h5⟩
    refine ⟨x, h1, List.mem_map.mpr ⟨y, List.mem_filter.mpr ⟨h2, ?_⟩, rfl⟩⟩
    simp [h3, h4, h5]
/-- the number of rows in which p.1 stands ahead -/
def aheadN (o : Order) (p : Nat × Nat) : Nat := ((rows o).filter fun r => decide (place r p.1 < place r p.2)).length
def offO (o : Order) (p : Nat × Nat) : Nat := offN (aheadN o p) (rows o).length
/-- which of two is met first -/
def KLt (k : Nat × Nat → Nat) (p q : Nat × Nat) : Prop := k p < k q ∨ (k p = k q ∧ PLt p q)
theorem fold_least (k : Nat × Nat → Nat) : ∀ (l : List (Nat × Nat)) (b : Nat × Nat), (b :: l).Pairwise PLt → ∃ z, l.foldl (fun b p => if k p < k b then p else b) b = z ∧ z ∈ b :: l ∧ ∀ c ∈ b :: l, c = z ∨ KLt k z c
  | [], b, _ => ⟨b, rfl, List.mem_cons_self, fun c hc => .inl (List.mem_singleton.mp hc)⟩
  | p :: l, b, h => by
    rw [List.pairwise_cons] at h
    obtain ⟨hb, h⟩ := h
    rw [List.pairwise_cons] at h
    rw [List.foldl_cons]
    by_cases c : k p < k b
    · rw [if_pos c]
      obtain ⟨z, e, hz, hm⟩ := fold_least k l p (List.pairwise_cons.mpr h)
      refine ⟨z, e, List.mem_cons_of_mem _ hz, fun d hd => ?_⟩
      rcases List.mem_cons.mp hd with rfl | hd
      · right; left
        rcases hm p List.mem_cons_self with rfl | q | q
        · exact c
        · omega
        · omega
      · exact hm d hd
    · rw [if_neg c]
      obtain ⟨z, e, hz, hm⟩ := fold_least k l b (List.pairwise_cons.mpr ⟨fun a ha => hb a (List.mem_cons_of_mem _ ha), h.2⟩)
      refine ⟨z, e, ?_, fun d hd => ?_⟩
      · rcases List.mem_cons.mp hz with rfl | hz
        · exact List.mem_cons_self
        · exact List.mem_cons_of_mem _ (List.mem_cons_of_mem _ hz)
      · rcases List.mem_cons.mp hd with rfl | hd
        · exact hm _ List.mem_cons_self
        · rcases List.mem_cons.mp hd with rfl | hd
          · right
            have bd := hb d List.mem_cons_self
            rcases hm b List.mem_cons_self with rfl | q | ⟨q, r⟩
            · by_cases e : k b = k d
              · exact .inr ⟨e, bd⟩
              · left; omega
            · left; omega
            · by_cases e : k b = k d
              · exact .inr ⟨by omega, r.trans bd⟩
              · left; omega
          · exact hm d (List.mem_cons_of_mem _ hd)
theorem fairest_fold (o : Order) (g : Good o) : fairest o = (open_ o).foldl (fun (b : Option (Nat × Nat)) p => match b with
    | none => some p
    | some q => if offO o p < offO o q then some p else some q) none := by
  unfold fairest
  have hl := rows_pos g
  have gen : ∀ (l : List (Nat × Nat)) (b : Option (Nat × Nat)),
      ((l.map fun p => (p, part (rows o) fun r => decide (place r p.1 < place r p.2))).foldl (fun (b : Option ((Nat × Nat) × Rat)) p => match b with
        | none => some p
        | some q => if far p.2 < far q.2 then some p else some q) (b.map fun p => (p, part (rows o) fun r => decide (place r p.1 < place r p.2)))).map (fun p => p.1)
      = l.foldl (fun (b : Option (Nat × Nat)) p => match b with
        | none => some p
        | some q => if offO o p < offO o q then some p else some q) b := by
    intro l
    induction l with
    | nil => intro b; cases b <;> rfl
    | cons p l ih =>
      intro b
      rw [List.map_cons, List.foldl_cons, List.foldl_cons]
      cases b with
      | none => exact ih (some p)
      | some q =>
        have e : (far (part (rows o) fun r => decide (place r p.1 < place r p.2)) < far (part (rows o) fun r => decide (place r q.1 < place r q.2))) ↔ offO o p < offO o q := by
          rw [part_eq _ hl, part_eq _ hl]
          exact far_lt hl
        by_cases c : offO o p < offO o q
        · have := ih (some p)
          simp only [Option.map_some, if_pos c, if_pos (e.mpr c)]
          exact this
        · have := ih (some q)
          simp only [Option.map_some, if_neg c, if_neg (fun z => c (e.mp z))]
          exact this
  exact gen (open_ o) none
theorem fairest_none {o : Order} (g : Good o) (h : open_ o = []) : fairest o = none := by
  rw [fairest_fold o g, h]; rfl
theorem fairest_some {o : Order} (g : Good o) {p : Nat × Nat} (hp : p ∈ open_ o) (hm : ∀ c ∈ open_ o, ¬ KLt (offO o) c p) : fairest o = some p := by
  rw [fairest_fold o g]
  cases e : open_ o with
  | nil => rw [e] at hp; cases hp
  | cons b l =>
    have srt := open_sorted o
    rw [e] at srt hp hm
    obtain ⟨z, ez, hz, hk⟩ := fold_least (offO o) l b srt
    rw [List.foldl_cons]
    have gen : ∀ (l : List (Nat × Nat)) (b : Nat × Nat), l.foldl (fun (b : Option (Nat × Nat)) p => match b with
        | none => some p
        | some q => if offO o p < offO o q then some p else some q) (some b) = some (l.foldl (fun b p => if offO o p < offO o b then p else b) b) := by
      intro l
      induction l with
      | nil => intro b; rfl
      | cons p l ih =>
        intro b
        rw [List.foldl_cons, List.foldl_cons]
        by_cases c : offO o p < offO o b
        · simp only [if_pos c]; exact ih p
        · simp only [if_neg c]; exact ih b
    show l.foldl _ (some b) = some p
    rw [gen, ez]
    rcases hk p hp with q | q
    · rw [q]
    · exact absurd q (hm z hz)

/-! ### places counted, and their sum -/
def spreadN (rs : List (List Nat)) (x n : Nat) : List Nat := (List.range n).map fun k => (rs.filter fun r => place r x == k).length
theorem spread_eq (o : Order) (x : Nat) : spread o x = spreadN (rows o) x o.many := rfl
/-- the places together -/
def psum (l : List Nat) : Nat := (l.zipIdx.map fun p => (p.2 + 1) * p.1).sum
def rsum (rs : List (List Nat)) (x : Nat) : Nat := (rs.map fun r => place r x + 1).foldr (fun a n => a + n) 0
theorem psum_range (f : Nat → Nat) (n : Nat) : psum ((List.range n).map f) = ((List.range n).map fun k => (k + 1) * f k).sum := by
  unfold psum
  congr 1
  apply List.ext_getElem
  · simp
  · intro i h1 h2
    simp
theorem sum_range_add (f g : Nat → Nat) : ∀ n, ((List.range n).map fun k => f k + g k).sum = ((List.range n).map f).sum + ((List.range n).map g).sum
  | 0 => rfl
  | n + 1 => by
    rw [List.range_succ, List.map_append, List.map_append, List.map_append, List.sum_append, List.sum_append, List.sum_append, sum_range_add f g n]
    simp
    omega
theorem sum_range_one (p : Nat) : ∀ n, ((List.range n).map fun k => if p = k then k + 1 else 0).sum = if p < n then p + 1 else 0
  | 0 => rfl
  | n + 1 => by
    rw [List.range_succ, List.map_append, List.sum_append, sum_range_one p n]
    by_cases h : p = n
    · subst h; simp
    · have e : ([n].map fun k => if p = k then k + 1 else 0).sum = 0 := by simp [h]
      rw [e]
      by_cases q : p < n
      · rw [if_pos q, if_pos (by omega)]
      · rw [if_neg q, if_neg (by omega)]
theorem psum_spread (x n : Nat) : ∀ (rs : List (List Nat)), (∀ r ∈ rs, place r x < n) → psum (spreadN rs x n) = rsum rs x
  | [], _ => by
    unfold spreadN
    rw [psum_range]
    have e : ∀ l : List Nat, (l.map fun k => (k + 1) * (([] : List (List Nat)).filter fun r => place r x == k).length).sum = 0 := by
      intro l
      induction l with
      | nil => rfl
      | cons a l ih => rw [List.map_cons, List.sum_cons, ih]; rfl
    rw [e]
    rfl
  | r :: rs, h => by
    have ih := psum_spread x n rs fun q hq => h q (List.mem_cons_of_mem _ hq)
    have hr := h r List.mem_cons_self
    have e : rsum (r :: rs) x = (place r x + 1) + rsum rs x := rfl
    rw [e, ← ih]
    unfold spreadN
    rw [psum_range, psum_range]
    have e2 : (fun k => (k + 1) * ((r :: rs).filter fun r => place r x == k).length) = fun k => (if place r x = k then k + 1 else 0) + (k + 1) * (rs.filter fun r => place r x == k).length := by
      funext k
      rw [List.filter_cons]
      by_cases c : place r x = k
      · simp only [c, beq_self_eq_true, if_true, List.length_cons, Nat.mul_add]
        omega
      · have c' : (place r x == k) = false := by simp [c]
        rw [c', if_neg c]
        simp
    rw [e2, sum_range_add, sum_range_one, if_pos hr]
theorem place_rows {o : Order} {r : List Nat} (hr : r ∈ rows o) {x : Nat} (hx : x ∈ things o) : place r x < o.many := by
  have p := rows_perm hr
  have := place_lt (p.symm.subset hx)
  rw [p.length_eq, things_len] at this
  exact this
theorem average_eq {o : Order} (g : Good o) (x : Nat) : average o x = (rsum (rows o) x : Rat) / ((rows o).length : Rat) := by
  unfold average
  have hl := rows_pos g
  simp only
  rw [if_neg (by omega)]
  rfl
theorem fraction_average {o : Order} (g : Good o) {x : Nat} (hx : x ∈ things o) : fraction (average o x) = Or01.ints (shareN (psum (spreadN (rows o) x o.many)) (rows o).length) := by
  rw [average_eq g, psum_spread x o.many (rows o) fun r hr => place_rows hr hx]
  exact fraction_div _ _ (rows_pos g)

/-! ### the likely order -/
theorem put_sorted {lt : Nat × Rat → Nat × Rat → Prop} (h1 : ∀ a b : Nat × Rat, a.2 < b.2 → lt a b) (h2 : ∀ a b : Nat × Rat, a.1 < b.1 → ¬ b.2 < a.2 → lt a b) (h3 : ∀ a b : Nat × Rat, lt a b → ¬ b.2 < a.2) :
    ∀ (l : List (Nat × Rat)) (x : Nat × Rat), l.Pairwise lt → (∀ z ∈ l, z.1 < x.1) → (put x l).Pairwise lt ∧ (put x l).Perm (x :: l)
  | [], x, _, _ => ⟨by simp [put], by simp [put]⟩
  | y :: l, x, h, hx => by
    rw [List.pairwise_cons] at h
    unfold put
    by_cases c : x.2 < y.2
    · rw [if_pos c]
      refine ⟨?_, .refl _⟩
      rw [List.pairwise_cons]
      refine ⟨fun z hz => ?_, List.pairwise_cons.mpr h⟩
      rcases List.mem_cons.mp hz with rfl | hz
      · exact h1 _ _ c
      · have := h3 _ _ (h.1 z hz)
        refine h1 _ _ ?_
        rcases Rat.le_total (a := z.2) (b := x.2) with q | q
        · exfalso
          grind
        · grind
    · rw [if_neg c]
      obtain ⟨ih, ip⟩ := put_sorted h1 h2 h3 l x h.2 fun z hz => hx z (List.mem_cons_of_mem _ hz)
      refine ⟨?_, ?_⟩
      · rw [List.pairwise_cons]
        refine ⟨fun z hz => ?_, ih⟩
        rcases List.mem_cons.mp (ip.subset hz) with rfl | hz
        · exact h2 _ _ (hx y List.mem_cons_self) c
        · exact h.1 z hz
      · exact (ip.cons y).trans (.swap _ _ _)
def LkLt (a b : Nat × Rat) : Prop := a.2 < b.2 ∨ (a.2 = b.2 ∧ a.1 < b.1)
theorem fold_put : ∀ (m l : List (Nat × Rat)), l.Pairwise LkLt → (∀ z ∈ l, ∀ x ∈ m, z.1 < x.1) → m.Pairwise (fun a b => a.1 < b.1) → (m.foldl (fun l x => put x l) l).Pairwise LkLt ∧ (m.foldl (fun l x => put x l) l).Perm (l ++ m)
  | [], l, h, _, _ => ⟨h, by simp⟩
  | x :: m, l, h, hx, hm => by
    rw [List.pairwise_cons] at hm
    obtain ⟨p1, p2⟩ := put_sorted (lt := LkLt) (fun a b q => .inl q) (fun a b q c => by
      rcases Rat.le_total (a := a.2) (b := b.2) with r | r
      · by_cases e : a.2 = b.2
        · exact .inr ⟨e, q⟩
        · exact .inl (Rat.lt_of_le_of_ne r e)
      · by_cases e : a.2 = b.2
        · exact .inr ⟨e, q⟩
        · exact absurd (Rat.lt_of_le_of_ne r fun z => e z.symm) c) (fun a b q c => by
      rcases q with q | ⟨q, _⟩
      · grind
      · rw [q] at c; exact Rat.lt_irrefl c) l x h (fun z hz => hx z hz x List.mem_cons_self)
    rw [List.foldl_cons]
    obtain ⟨q1, q2⟩ := fold_put m (put x l) p1 (fun z hz y hy => by
      rcases List.mem_cons.mp (p2.subset hz) with rfl | hz
      · exact hm.1 y hy
      · exact hx z hz y (List.mem_cons_of_mem _ hy)) hm.2
    refine ⟨q1, q2.trans ?_⟩
    refine (p2.append_right m).trans ?_
    rw [List.cons_append]
    exact (List.perm_middle).symm
/-- sums of places and their things, in order: the likely order -/
def SLt (a b : Nat × Nat) : Prop := a.1 < b.1 ∨ (a.1 = b.1 ∧ a.2 < b.2)
def sumsN (o : Order) : List (Nat × Nat) := (things o).map fun x => (psum (spreadN (rows o) x o.many), x)
theorem likely_eq {o : Order} (g : Good o) {ys : List (Nat × Nat)} (hp : ys.Perm (sumsN o)) (hs : ys.Pairwise SLt) :
    ((Or01.likely o).flatMap fun x => (x.1 : Int) :: fraction x.2) = ys.flatMap fun y => Or01.ints (y.2 :: shareN y.1 (rows o).length) := by
  have hl := rows_pos g
  have e : Or01.likely o = ys.map fun y => (y.2, (y.1 : Rat) / ((rows o).length : Rat)) := by
    unfold Or01.likely
    obtain ⟨q1, q2⟩ := fold_put ((things o).map fun x => (x, average o x)) [] .nil (fun _ h => nomatch h) (by
      rw [List.pairwise_map]
      exact things_lt o)
    rw [List.nil_append] at q2
    refine List.Perm.eq_of_pairwise (le := LkLt) (fun a b _ _ h k => ?_) q1 ?_ (q2.trans ?_)
    · exfalso
      rcases h with h | ⟨h, h'⟩
      · rcases k with k | ⟨k, _⟩
        · grind
        · rw [k] at h; exact Rat.lt_irrefl h
      · rcases k with k | ⟨_, k⟩
        · rw [h] at k; exact Rat.lt_irrefl k
        · omega
    · rw [List.pairwise_map]
      refine hs.imp fun {a b} h => ?_
      rcases h with h | ⟨h, k⟩
      · exact .inl ((div_lt_div hl).mpr h)
      · exact .inr ⟨by show (a.1 : Rat) / _ = (b.1 : Rat) / _; rw [h], k⟩
    · have : ((things o).map fun x => (x, average o x)) = (sumsN o).map fun y => (y.2, (y.1 : Rat) / ((rows o).length : Rat)) := by
        unfold sumsN
        rw [List.map_map]
        apply List.map_congr_left
        intro x hx
        show (x, average o x) = (x, ((psum (spreadN (rows o) x o.many) : Nat) : Rat) / ((rows o).length : Rat))
        rw [average_eq g, psum_spread x o.many (rows o) fun r hr => place_rows hr hx]
      rw [this]
      exact (hp.map _).symm
  rw [e, List.flatMap_map]
  congr 1
  funext y
  show (y.2 : Int) :: fraction ((y.1 : Rat) / ((rows o).length : Rat)) = _
  rw [fraction_div _ _ hl]
  rfl
end Oo
namespace Oo
open Or01

def aheadOf (rs : List (List Nat)) (x y : Nat) : List (List Nat) := rs.filter fun r => decide (place r x < place r y)
def behindOf (rs : List (List Nat)) (x y : Nat) : List (List Nat) := rs.filter fun r => !decide (place r x < place r y)
def minOf : List Nat → Nat
  | [] => 0
  | a :: l => l.foldl min a
theorem minOf_le : ∀ (l : List Nat) (a : Nat), (l.foldl min a ∈ a :: l) ∧ ∀ x ∈ a :: l, l.foldl min a ≤ x
  | [], a => ⟨List.mem_cons_self, fun x hx => by rw [List.mem_singleton.mp hx]; exact Nat.le_refl _⟩
  | b :: l, a => by
    rw [List.foldl_cons]
    obtain ⟨h1, h2⟩ := minOf_le l (min a b)
    have hm := h2 _ List.mem_cons_self
    refine ⟨?_, fun x hx => ?_⟩
    · rcases List.mem_cons.mp h1 with h | h
      · rw [h]
        rcases Nat.le_total a b with q | q
        · rw [Nat.min_eq_left q]; exact List.mem_cons_self
        · rw [Nat.min_eq_right q]; exact List.mem_cons_of_mem _ List.mem_cons_self
      · exact List.mem_cons_of_mem _ (List.mem_cons_of_mem _ h)
    · rcases List.mem_cons.mp hx with rfl | hx
      · omega
      · rcases List.mem_cons.mp hx with rfl | hx
        · omega
        · exact h2 x (List.mem_cons_of_mem _ hx)
theorem minOf_is {l : List Nat} {m : Nat} (h : m ∈ l) (k : ∀ x ∈ l, m ≤ x) : minOf l = m := by
  cases l with
  | nil => cases h
  | cons a l =>
    obtain ⟨h1, h2⟩ := minOf_le l a
    exact Nat.le_antisymm (h2 m h) (k _ h1)
def pairsN (ts : List Nat) : List (Nat × Nat) := ts.flatMap fun x => ts.map fun y => (x, y)
theorem mem_pairsN {ts : List Nat} {x y : Nat} : (x, y) ∈ pairsN ts ↔ x ∈ ts ∧ y ∈ ts := by
  unfold pairsN
  rw [List.mem_flatMap]
  constructor
  · rintro ⟨a, ha, h⟩
    obtain ⟨b, hb, e⟩ := List.mem_map.mp h
    cases e
    exact ⟨ha, hb⟩
  · rintro ⟨h1, h2⟩
    exact ⟨x, h1, List.mem_map.mpr ⟨y, h2, rfl⟩⟩
def splitB (rs : List (List Nat)) (p : Nat × Nat) : Bool := decide (p.1 < p.2) && decide (0 < (aheadOf rs p.1 p.2).length) && decide (0 < (behindOf rs p.1 p.2).length)
theorem splitB_iff {rs : List (List Nat)} {p : Nat × Nat} : splitB rs p = true ↔ p.1 < p.2 ∧ 0 < (aheadOf rs p.1 p.2).length ∧ 0 < (behindOf rs p.1 p.2).length := by
  unfold splitB
  rw [Bool.and_eq_true, Bool.and_eq_true, decide_eq_true_iff, decide_eq_true_iff, decide_eq_true_iff, and_assoc]
theorem ahead_behind (rs : List (List Nat)) (x y : Nat) : (aheadOf rs x y).length + (behindOf rs x y).length = rs.length := by
  unfold aheadOf behindOf
  induction rs with
  | nil => rfl
  | cons r rs ih =>
    rw [List.filter_cons, List.filter_cons]
    cases decide (place r x < place r y) <;> simp <;> omega
def enoughF (ts : List Nat) : Nat → List (List Nat) → Nat
  | 0, _ => 0
  | n + 1, rs => if rs.length = 1 then 0 else minOf (((pairsN ts).filter (splitB rs)).map fun p => 1 + max (enoughF ts n (aheadOf rs p.1 p.2)) (enoughF ts n (behindOf rs p.1 p.2)))
theorem enoughF_nil (ts : List Nat) : ∀ n, enoughF ts n [] = 0
  | 0 => rfl
  | n + 1 => by
    unfold enoughF
    rw [if_neg (by simp)]
    have e : (pairsN ts).filter (splitB []) = [] := by
      rw [List.filter_eq_nil_iff]
      intro p _ h
      rw [splitB_iff] at h
      simp [aheadOf] at h
    rw [e]
    rfl
theorem enoughF_any (ts : List Nat) : ∀ (n m : Nat) (rs : List (List Nat)), rs.length ≤ n → rs.length ≤ m → enoughF ts n rs = enoughF ts m rs
  | 0, m, rs, h, _ => by
    have e : rs = [] := List.length_eq_zero_iff.mp (by omega)
    subst e
    rw [enoughF_nil, enoughF_nil]
  | n + 1, 0, rs, _, h => by
    have e : rs = [] := List.length_eq_zero_iff.mp (by omega)
    subst e
    rw [enoughF_nil, enoughF_nil]
  | n + 1, m + 1, rs, h, k => by
    unfold enoughF
    by_cases c : rs.length = 1
    · rw [if_pos c, if_pos c]
    · rw [if_neg c, if_neg c]
      congr 1
      apply List.map_congr_left
      intro p hp
      have hs := splitB_iff.mp (List.mem_filter.mp hp).2
      have hab := ahead_behind rs p.1 p.2
      rw [enoughF_any ts n m (aheadOf rs p.1 p.2) (by omega) (by omega), enoughF_any ts n m (behindOf rs p.1 p.2) (by omega) (by omega)]
/-- how many questions are enough for some rows -/
def Enough (ts : List Nat) (rs : List (List Nat)) : Nat := enoughF ts rs.length rs
def enoughL (ts : List Nat) (rs : List (List Nat)) : List Nat := ((pairsN ts).filter (splitB rs)).map fun p => 1 + max (Enough ts (aheadOf rs p.1 p.2)) (Enough ts (behindOf rs p.1 p.2))
theorem Enough_one {ts : List Nat} {rs : List (List Nat)} (h : rs.length = 1) : Enough ts rs = 0 := by
  unfold Enough
  rw [h]
  unfold enoughF
  rw [if_pos h]
theorem Enough_more {ts : List Nat} {rs : List (List Nat)} (h : rs.length ≠ 1) (h0 : rs.length ≠ 0) : Enough ts rs = minOf (enoughL ts rs) := by
  unfold Enough
  obtain ⟨k, hk⟩ : ∃ k, rs.length = k + 1 := ⟨rs.length - 1, by omega⟩
  rw [hk]
  unfold enoughF enoughL
  rw [if_neg h]
  congr 1
  apply List.map_congr_left
  intro p hp
  have hs := splitB_iff.mp (List.mem_filter.mp hp).2
  have hab := ahead_behind rs p.1 p.2
  rw [enoughF_any ts k _ (aheadOf rs p.1 p.2) (by omega) (Nat.le_refl _), enoughF_any ts k _ (behindOf rs p.1 p.2) (by omega) (Nat.le_refl _)]
  rfl

/-- some rows, each of all things, none twice -/
structure Rows (ts : List Nat) (rs : List (List Nat)) : Prop where
  nd : ts.Nodup
  perm : ∀ r ∈ rs, r.Perm ts
  once : rs.Nodup
theorem Rows.ahead {ts : List Nat} {rs : List (List Nat)} (h : Rows ts rs) (x y : Nat) : Rows ts (aheadOf rs x y) := ⟨h.nd, fun r hr => h.perm r (List.mem_filter.mp hr).1, h.once.filter _⟩
theorem Rows.behind {ts : List Nat} {rs : List (List Nat)} (h : Rows ts rs) (x y : Nat) : Rows ts (behindOf rs x y) := ⟨h.nd, fun r hr => h.perm r (List.mem_filter.mp hr).1, h.once.filter _⟩
theorem same_rows {ts r s : List Nat} (nd : ts.Nodup) (hr : r.Perm ts) (hs : s.Perm ts) (h : ∀ x ∈ ts, ∀ y ∈ ts, x < y → (place r x < place r y ↔ place s x < place s y)) : r = s := by
  have nr := hr.symm.nodup nd
  have ns := hs.symm.nodup nd
  refine List.Perm.eq_of_pairwise (le := fun x y => place r x < place r y) (fun a b _ _ h k => by omega) ((pairwise_place nr).mpr fun _ _ _ _ h => h) ((pairwise_place ns).mpr fun x hx y hy q => ?_) (hr.trans hs.symm)
  have hx' := hs.subset hx
  have hy' := hs.subset hy
  rcases Nat.lt_trichotomy x y with c | c | c
  · exact (h x hx' y hy' c).mpr q
  · subst c; omega
  · have k := h y hy' x hx' c
    rcases Nat.lt_trichotomy (place r x) (place r y) with d | d | d
    · exact d
    · have := place_inj (hr.symm.subset hx') (hr.symm.subset hy') d
      subst this; omega
    · have := k.mp d; omega
theorem Rows.split {ts : List Nat} {rs : List (List Nat)} (h : Rows ts rs) (h2 : 2 ≤ rs.length) : ∃ p ∈ pairsN ts, splitB rs p = true := by
  cases rs with
  | nil => simp at h2
  | cons r rs =>
    cases rs with
    | nil => simp at h2
    | cons s rs =>
      have ne : r ≠ s := fun e => by
        have := h.once
        rw [List.nodup_cons] at this
        exact this.1 (by rw [e]; exact List.mem_cons_self)
      apply Classical.byContradiction
      intro no
      apply ne
      refine same_rows h.nd (h.perm r List.mem_cons_self) (h.perm s (List.mem_cons_of_mem _ List.mem_cons_self)) fun x hx y hy c => ?_
      apply Classical.byContradiction
      intro d
      refine no ⟨(x, y), mem_pairsN.mpr ⟨hx, hy⟩, splitB_iff.mpr ⟨c, ?_, ?_⟩⟩
      · apply List.length_pos_of_mem (a := if place r x < place r y then r else s)
        unfold aheadOf
        rw [List.mem_filter]
        by_cases q : place r x < place r y
        · rw [if_pos q]; exact ⟨List.mem_cons_self, decide_eq_true q⟩
        · rw [if_neg q]
          refine ⟨List.mem_cons_of_mem _ List.mem_cons_self, decide_eq_true ?_⟩
          apply Classical.byContradiction
          intro w
          exact d ⟨fun z => absurd z q, fun z => absurd z w⟩
      · apply List.length_pos_of_mem (a := if place r x < place r y then s else r)
        unfold behindOf
        rw [List.mem_filter]
        by_cases q : place r x < place r y
        · rw [if_pos q]
          refine ⟨List.mem_cons_of_mem _ List.mem_cons_self, ?_⟩
          rw [Bool.not_eq_true', decide_eq_false_iff_not]
          intro w
          exact d ⟨fun _ => w, fun _ => q⟩
        · rw [if_neg q]
          refine ⟨List.mem_cons_self, ?_⟩
          rw [Bool.not_eq_true', decide_eq_false_iff_not]
          exact q
theorem enoughL_ne {ts : List Nat} {rs : List (List Nat)} (h : Rows ts rs) (h2 : 2 ≤ rs.length) : enoughL ts rs ≠ [] := by
  obtain ⟨p, hp, hs⟩ := h.split h2
  unfold enoughL
  intro e
  rw [List.map_eq_nil_iff] at e
  have : p ∈ (pairsN ts).filter (splitB rs) := List.mem_filter.mpr ⟨hp, hs⟩
  rw [e] at this
  cases this
theorem good_rows {o : Order} : Rows (things o) (rows o) := ⟨things_nodup o, fun r hr => rows_perm hr, rows_nodup o⟩

/-! ### questions: open pairs are those that part the rows -/
theorem open_good {o : Order} (g : Good o) {x y : Nat} (h : (x, y) ∈ open_ o) : Good (with_ o x y) ∧ Good (with_ o y x) := by
  obtain ⟨h1, h2, h3, h4, h5⟩ := mem_open.mp h
  rw [below_iff' g h1] at h4
  rw [below_iff' g h2] at h5
  exact ⟨good_with g h1 h2 (by omega) h5, good_with g h2 h1 (by omega) h4⟩
theorem behind_is {o : Order} {x y : Nat} (hx : x ∈ things o) (hy : y ∈ things o) (ne : x ≠ y) : behindOf (rows o) x y = (rows o).filter fun r => decide (place r y < place r x) := by
  unfold behindOf
  apply List.filter_congr
  intro r hr
  have p := rows_perm hr
  have : place r x ≠ place r y := fun e => ne (place_inj (p.symm.subset hx) (p.symm.subset hy) e)
  by_cases c : place r x < place r y
  · rw [decide_eq_true c, decide_eq_false (by omega)]; rfl
  · rw [decide_eq_false c, decide_eq_true (by omega)]; rfl
theorem open_split {o : Order} (g : Good o) {x y : Nat} (hx : x ∈ things o) (hy : y ∈ things o) : (x, y) ∈ open_ o ↔ splitB (rows o) (x, y) = true := by
  rw [splitB_iff]
  constructor
  · intro h
    obtain ⟨g1, g2⟩ := open_good g h
    have c := (mem_open.mp h).2.2.1
    refine ⟨c, ?_, ?_⟩
    · have := rows_pos g1
      rw [rows_with g g1] at this
      exact this
    · have := rows_pos g2
      rw [rows_with g g2, ← behind_is hx hy (by omega)] at this
      exact this
  · rintro ⟨c, h1, h2⟩
    obtain ⟨r, hr⟩ := List.exists_mem_of_length_pos h1
    obtain ⟨s, hs⟩ := List.exists_mem_of_length_pos h2
    unfold aheadOf at hr
    unfold behindOf at hs
    rw [List.mem_filter] at hr hs
    refine mem_open.mpr ⟨hx, hy, c, ?_, ?_⟩
    · rw [below_iff' g hx]
      intro b
      have := rows_ahead g hs.1 b
      simp [this] at hs
    · rw [below_iff' g hy]
      intro b
      have := rows_ahead g hr.1 b
      have := of_decide_eq_true hr.2
      simp only at this
      omega
theorem open_nodup (o : Order) : (open_ o).Nodup := by
  refine List.Pairwise.imp ?_ (open_sorted o)
  intro a b h e
  subst e
  unfold PLt at h
  omega
theorem open_less {o : Order} (g : Good o) {x y a b : Nat} (h : (a, b) ∈ open_ o) (hxy : (x = a ∧ y = b) ∨ (x = b ∧ y = a)) (g' : Good (with_ o x y)) : (open_ (with_ o x y)).length + 1 ≤ (open_ o).length := by
  have hs : ∀ p ∈ open_ (with_ o x y), p ∈ (open_ o).erase (a, b) := by
    rintro ⟨u, v⟩ hp
    obtain ⟨h1, h2, h3, h4, h5⟩ := mem_open.mp hp
    have h1' : u ∈ things o := h1
    have h2' : v ∈ things o := h2
    rw [below_iff' g' h1] at h4
    rw [below_iff' g' h2] at h5
    refine ((open_nodup o).mem_erase_iff).mpr ⟨fun e => ?_, mem_open.mpr ⟨h1', h2', h3, ?_, ?_⟩⟩
    · cases e
      have nb : (x, y) ∈ (with_ o x y).told := List.mem_append_right _ (List.mem_singleton.mpr rfl)
      rcases hxy with ⟨rfl, rfl⟩ | ⟨rfl, rfl⟩
      · exact h4 (.one nb)
      · exact h5 (.one nb)
    · rw [below_iff' g h1']
      exact fun q => h4 (q.mono fun p hp => List.mem_append_left _ hp)
    · rw [below_iff' g h2']
      exact fun q => h5 (q.mono fun p hp => List.mem_append_left _ hp)
  have := List.Nodup.length_le_of_subset (open_nodup _) hs
  rw [List.length_erase_of_mem h] at this
  have hp := List.length_pos_of_mem h
  omega
theorem foldr_min (b : Nat) : ∀ l : List Nat, (l.foldr min b ∈ b :: l) ∧ ∀ x ∈ b :: l, l.foldr min b ≤ x
  | [] => ⟨List.mem_cons_self, fun x hx => by rw [List.mem_singleton.mp hx]; exact Nat.le_refl _⟩
  | a :: l => by
    obtain ⟨h1, h2⟩ := foldr_min b l
    rw [List.foldr_cons]
    refine ⟨?_, fun x hx => ?_⟩
    · rcases Nat.le_total a (l.foldr min b) with q | q
      · rw [Nat.min_eq_left q]; exact List.mem_cons_of_mem _ List.mem_cons_self
      · rw [Nat.min_eq_right q]
        rcases List.mem_cons.mp h1 with h | h
        · rw [h]; exact List.mem_cons_self
        · exact List.mem_cons_of_mem _ (List.mem_cons_of_mem _ h)
    · rcases List.mem_cons.mp hx with rfl | hx
      · have := h2 x List.mem_cons_self; omega
      · rcases List.mem_cons.mp hx with rfl | hx
        · omega
        · have := h2 x (List.mem_cons_of_mem _ hx); omega
theorem fewest_eq : ∀ (n : Nat) (o : Order), Good o → (open_ o).length ≤ n → fewest n o = Enough (things o) (rows o) := by
  have none : ∀ o, Good o → open_ o = [] → Enough (things o) (rows o) = 0 := fun o g h => by
    apply Enough_one
    have hp := rows_pos g
    apply Classical.byContradiction
    intro c
    obtain ⟨⟨x, y⟩, hp, hs⟩ := (good_rows (o := o)).split (by omega)
    obtain ⟨hx, hy⟩ := mem_pairsN.mp hp
    have := (open_split g hx hy).mpr hs
    rw [h] at this
    cases this
  intro n
  induction n with
  | zero =>
    intro o g h
    have e : open_ o = [] := List.length_eq_zero_iff.mp (by omega)
    rw [none o g e]
    rfl
  | succ n ih =>
    intro o g h
    cases e : open_ o with
    | nil =>
      rw [none o g e]
      unfold fewest
      rw [e]
    | cons p l =>
      unfold fewest
      rw [e]
      show 1 + ((p :: l).map fun q => max (fewest n (with_ o q.1 q.2)) (fewest n (with_ o q.2 q.1))).foldr min (max (fewest n (with_ o p.1 p.2)) (fewest n (with_ o p.2 p.1))) = _
      have key : ∀ q ∈ open_ o, max (fewest n (with_ o q.1 q.2)) (fewest n (with_ o q.2 q.1)) = max (Enough (things o) (aheadOf (rows o) q.1 q.2)) (Enough (things o) (behindOf (rows o) q.1 q.2)) := by
        rintro ⟨x, y⟩ hq
        obtain ⟨g1, g2⟩ := open_good g hq
        obtain ⟨hx, hy, hc, _, _⟩ := mem_open.mp hq
        have l1 := open_less g hq (.inl ⟨rfl, rfl⟩) g1
        have l2 := open_less g hq (.inr ⟨rfl, rfl⟩) g2
        show max (fewest n (with_ o x y)) (fewest n (with_ o y x)) = _
        rw [ih _ g1 (by omega), ih _ g2 (by omega), rows_with g g1, rows_with g g2, ← behind_is hx hy (by omega)]
        rfl
      have hp : p ∈ open_ o := by rw [e]; exact List.mem_cons_self
      rw [key p hp, ← e]
      have e2 : ((open_ o).map fun q => max (fewest n (with_ o q.1 q.2)) (fewest n (with_ o q.2 q.1))) = (open_ o).map fun q => max (Enough (things o) (aheadOf (rows o) q.1 q.2)) (Enough (things o) (behindOf (rows o) q.1 q.2)) := List.map_congr_left key
      rw [e2]
      have hsp : splitB (rows o) p = true := (open_split g (mem_open.mp hp).1 (mem_open.mp hp).2.1).mp hp
      have hsp' := splitB_iff.mp hsp
      have hab := ahead_behind (rows o) p.1 p.2
      rw [Enough_more (ts := things o) (rs := rows o) (by omega) (by omega)]
      symm
      have fm : ∀ z, z ∈ (open_ o).map (fun q => max (Enough (things o) (aheadOf (rows o) q.1 q.2)) (Enough (things o) (behindOf (rows o) q.1 q.2))) ↔ 1 + z ∈ enoughL (things o) (rows o) := fun z => by
        unfold enoughL
        rw [List.mem_map, List.mem_map]
        constructor
        · rintro ⟨⟨x, y⟩, hq, rfl⟩
          obtain ⟨hx, hy, _⟩ := mem_open.mp hq
          exact ⟨(x, y), List.mem_filter.mpr ⟨mem_pairsN.mpr ⟨hx, hy⟩, (open_split g hx hy).mp hq⟩, rfl⟩
        · rintro ⟨⟨x, y⟩, hq, hz⟩
          rw [List.mem_filter] at hq
          obtain ⟨hx, hy⟩ := mem_pairsN.mp hq.1
          exact ⟨(x, y), (open_split g hx hy).mpr hq.2, by simp only at hz ⊢; omega⟩
      obtain ⟨m1, m2⟩ := foldr_min (max (Enough (things o) (aheadOf (rows o) p.1 p.2)) (Enough (things o) (behindOf (rows o) p.1 p.2))) ((open_ o).map fun q => max (Enough (things o) (aheadOf (rows o) q.1 q.2)) (Enough (things o) (behindOf (rows o) q.1 q.2)))
      apply minOf_is
      · rw [← fm]
        rcases List.mem_cons.mp m1 with q | q
        · rw [q]
          exact List.mem_map.mpr ⟨p, hp, rfl⟩
        · exact q
      · intro x hx
        have hx1 : 1 ≤ x := by
          unfold enoughL at hx
          obtain ⟨_, _, rfl⟩ := List.mem_map.mp hx
          omega
        obtain ⟨z, rfl⟩ : ∃ z, x = 1 + z := ⟨x - 1, by omega⟩
        have := m2 z (List.mem_cons_of_mem _ ((fm z).mpr hx))
        omega
theorem open_six {o : Order} (h : o.many ≤ 4) : (open_ o).length ≤ 6 := by
  refine List.Nodup.length_le_of_subset (open_nodup o) (l₂ := [(1, 2), (1, 3), (1, 4), (2, 3), (2, 4), (3, 4)]) ?_
  rintro ⟨x, y⟩ hp
  obtain ⟨hx, hy, hc, _⟩ := mem_open.mp hp
  rw [mem_things] at hx hy
  have h1 : x = 1 ∨ x = 2 ∨ x = 3 := by omega
  have h2 : y = 2 ∨ y = 3 ∨ y = 4 := by omega
  rcases h1 with rfl | rfl | rfl <;> rcases h2 with rfl | rfl | rfl <;> simp at * <;> omega
theorem fewest_six {o : Order} (g : Good o) (h : o.many ≤ 4) : fewest 6 o = Enough (things o) (rows o) := fewest_eq 6 o g (open_six h)
def fact : Nat → Nat
  | 0 => 1
  | n + 1 => (n + 1) * fact n
theorem flat_len {f : Nat → List (List Nat)} {m : Nat} : ∀ l : List Nat, (∀ x ∈ l, (f x).length ≤ m) → (l.flatMap f).length ≤ l.length * m
  | [], _ => by simp
  | a :: l, h => by
    rw [List.flatMap_cons, List.length_append, List.length_cons, Nat.add_mul]
    have := flat_len l fun x hx => h x (List.mem_cons_of_mem _ hx)
    have := h a List.mem_cons_self
    omega
theorem rowsOf_len {b : Nat → Nat → Bool} : ∀ (n : Nat) (l : List Nat), l.Nodup → l.length = n → (rowsOf b n l).length ≤ fact n
  | 0, l, _, _ => by simp [rowsOf, fact]
  | n + 1, l, nd, hl => by
    show ((l.filter fun x => l.all fun y => !b y x).flatMap fun x => (rowsOf b n (l.filter fun y => y != x)).map fun r => x :: r).length ≤ (n + 1) * fact n
    refine Nat.le_trans (flat_len (m := fact n) _ fun x hx => ?_) (Nat.mul_le_mul_right _ ?_)
    · rw [List.length_map]
      have hx' := (List.mem_filter.mp hx).1
      refine rowsOf_len n _ (nd.filter _) ?_
      rw [← nd.erase_eq_filter, List.length_erase_of_mem hx', hl]
      omega
    · have := List.length_filter_le (fun x => l.all fun y => !b y x) l
      omega
theorem rows_fact (o : Order) : (rows o).length ≤ fact o.many := by
  rw [rows_below]
  exact rowsOf_len _ _ (things_nodup o) (things_len o)
theorem rows_four {o : Order} (h : o.many ≤ 4) : (rows o).length ≤ 24 := by
  have := rows_fact o
  have h' : o.many = 0 ∨ o.many = 1 ∨ o.many = 2 ∨ o.many = 3 ∨ o.many = 4 := by omega
  rcases h' with e | e | e | e | e <;> rw [e] at this <;> simp [fact] at this <;> omega
end Oo
namespace Oo
open Or01

/-! ### the calls taken apart -/
def numN : List Nat := [1, 2, 0, 0, 1, 0, 2, 3, 1, 0, 0, 0, 0, 2]
theorem shape_some {p : Int} {n k : Nat} (h : PyOr01.shape p = some (n, k)) : ∃ i : Nat, p = (i : Int) ∧ i < 14 ∧ numN[i]? = some n ∧ k = if i = 5 then 1 else 0 := by
  unfold PyOr01.shape at h
  by_cases e0 : p = 0
  · rw [if_pos e0] at h
    cases h
    exact ⟨0, e0, by decide, rfl, rfl⟩
  rw [if_neg e0] at h
  by_cases e1 : p = 1
  · rw [if_pos e1] at h
    cases h
    exact ⟨1, e1, by decide, rfl, rfl⟩
  rw [if_neg e1] at h
  by_cases e2 : p = 2
  · rw [if_pos e2] at h
    cases h
    exact ⟨2, e2, by decide, rfl, rfl⟩
  rw [if_neg e2] at h
  by_cases e3 : p = 3
  · rw [if_pos e3] at h
    cases h
    exact ⟨3, e3, by decide, rfl, rfl⟩
  rw [if_neg e3] at h
  by_cases e4 : p = 4
  · rw [if_pos e4] at h
    cases h
    exact ⟨4, e4, by decide, rfl, rfl⟩
  rw [if_neg e4] at h
  by_cases e5 : p = 5
  · rw [if_pos e5] at h
    cases h
    exact ⟨5, e5, by decide, rfl, rfl⟩
  rw [if_neg e5] at h
  by_cases e6 : p = 6
  · rw [if_pos e6] at h
    cases h
    exact ⟨6, e6, by decide, rfl, rfl⟩
  rw [if_neg e6] at h
  by_cases e7 : p = 7
  · rw [if_pos e7] at h
    cases h
    exact ⟨7, e7, by decide, rfl, rfl⟩
  rw [if_neg e7] at h
  by_cases e8 : p = 8
  · rw [if_pos e8] at h
    cases h
    exact ⟨8, e8, by decide, rfl, rfl⟩
  rw [if_neg e8] at h
  by_cases e9 : p = 9
  · rw [if_pos e9] at h
    cases h
    exact ⟨9, e9, by decide, rfl, rfl⟩
  rw [if_neg e9] at h
  by_cases e10 : p = 10
  · rw [if_pos e10] at h
    cases h
    exact ⟨10, e10, by decide, rfl, rfl⟩
  rw [if_neg e10] at h
  by_cases e11 : p = 11
  · rw [if_pos e11] at h
    cases h
    exact ⟨11, e11, by decide, rfl, rfl⟩
  rw [if_neg e11] at h
  by_cases e12 : p = 12
  · rw [if_pos e12] at h
    cases h
    exact ⟨12, e12, by decide, rfl, rfl⟩
  rw [if_neg e12] at h
  by_cases e13 : p = 13
  · rw [if_pos e13] at h
    cases h
    exact ⟨13, e13, by decide, rfl, rfl⟩
  rw [if_neg e13] at h
  cases h
/-- a call's number, its numbers, its row (empty where it has none) -/
def trip (c : List (List Int)) : Int × List Int × List Int := ((c.headD []).headD 0, (c.headD []).tail, c.tail.headD [])
/-- one call off the front -/
theorem call_one {l : List Int} {c : List (List Int)} {t : List Int} (h : PyFlat.call PyOr01.shape l = some (c, t)) :
    ∃ (i n : Nat) (r : List Int), l = (i : Int) :: r ∧ i < 14 ∧ numN[i]? = some n ∧ n ≤ r.length ∧
      ((i ≠ 5 ∧ c = [(i : Int) :: r.take n] ∧ t = r.drop n) ∨
       (i = 5 ∧ ∃ (m : Nat) (q : List Int), r = (m : Int) :: q ∧ m ≤ q.length ∧ c = [[5], q.take m] ∧ t = q.drop m)) := by
  cases l with
  | nil => cases h
  | cons p r =>
    cases hs : PyOr01.shape p with
    | none => simp only [PyFlat.call, hs] at h; cases h
    | some nk =>
      obtain ⟨n, k⟩ := nk
      simp only [PyFlat.call, hs] at h
      obtain ⟨i, rfl, hi, hn, hk⟩ := shape_some hs
      split at h
      · cases h
      · rename_i hr
        refine ⟨i, n, r, rfl, hi, hn, by omega, ?_⟩
        by_cases c5 : i = 5
        · subst c5
          rw [if_pos rfl] at hk
          subst hk
          have en : n = 0 := by
            have : numN[5]? = some 0 := rfl
            rw [this] at hn
            exact (Option.some.inj hn).symm
          subst en
          right
          refine ⟨rfl, ?_⟩
          rw [List.drop_zero] at h
          unfold PyFlat.rows at h
          cases hrow : PyFlat.row r with
          | none => rw [hrow] at h; cases h
          | some xs =>
            obtain ⟨x, s⟩ := xs
            rw [hrow] at h
            simp only [PyFlat.rows] at h
            cases h
            unfold PyFlat.row at hrow
            cases r with
            | nil => cases hrow
            | cons m q =>
              simp only at hrow
              split at hrow
              · rename_i hm
                cases hrow
                refine ⟨m.toNat, q, by congr 1; omega, hm.2, ?_, rfl⟩
                rw [List.take_zero]
                rfl
              · cases hrow
        · rw [if_neg c5] at hk
          subst hk
          left
          simp only [PyFlat.rows] at h
          cases h
          exact ⟨c5, rfl, rfl⟩
theorem calls_cons {f : Nat} {l : List Int} {cs : List (List (List Int))} (h : PyFlat.calls PyOr01.shape f l = some cs) : (l = [] ∧ cs = []) ∨ ∃ (f' : Nat) (c : List (List Int)) (t : List Int) (r : List (List (List Int))), PyFlat.call PyOr01.shape l = some (c, t) ∧ cs = c :: r ∧ PyFlat.calls PyOr01.shape f' t = some r := by
  cases l with
  | nil =>
    left
    cases f <;> (unfold PyFlat.calls at h; cases h; exact ⟨rfl, rfl⟩)
  | cons p r =>
    right
    cases f with
    | zero => unfold PyFlat.calls at h; cases h
    | succ f =>
      unfold PyFlat.calls at h
      cases hc : PyFlat.call PyOr01.shape (p :: r) with
      | none => rw [hc] at h; cases h
      | some ct =>
        obtain ⟨c, t⟩ := ct
        rw [hc] at h
        simp only at h
        cases hr : PyFlat.calls PyOr01.shape f t with
        | none => rw [hr] at h; cases h
        | some q =>
          rw [hr] at h
          simp only at h
          cases h
          exact ⟨f, c, t, q, rfl, rfl, hr⟩
/-- which call of the words it is -/
def callT : Nat → List Nat → List Nat → Option Or01.Call
  | 0, [n], _ => some (.things n)
  | 1, [x, y], _ => some (.less x y)
  | 2, [], _ => some .undo
  | 3, [], _ => some .many
  | 4, [k], _ => some (.nth k)
  | 5, [], l => some (.rank l)
  | 6, [x, y], _ => some (.chance x y)
  | 7, [x, y, z], _ => some (.both x y z)
  | 8, [x], _ => some (.spread x)
  | 9, [], _ => some .fairest
  | 10, [], _ => some .fewest
  | 11, [], _ => some .next
  | 12, [], _ => some .likely
  | 13, [x, y], _ => some (.is x y)
  | _, _, _ => none
/-- a raw call is a call of the words, in whole numbers that are not below 0 -/
structure CallIs (c : List (List Int)) (x : Or01.Call) : Prop where
  ex : ∃ (i : Nat) (xs row : List Nat), trip c = ((i : Int), Or01.ints xs, Or01.ints row) ∧ callT i xs row = some x
  same : Or01Neutral.callOf ((PyOr01.whole c).headD []) = some x
theorem ints_toNat : ∀ {l : List Int}, l.all Or01Neutral.nat = true → Or01.ints (l.map Int.toNat) = l
  | [], _ => rfl
  | a :: l, h => by
    rw [List.all_cons, Bool.and_eq_true] at h
    have ih := ints_toNat h.2
    unfold Or01.ints at ih
    have ha : 0 ≤ a := by
      have := h.1
      unfold Or01Neutral.nat at this
      rw [Bool.and_eq_true, decide_eq_true_iff] at this
      exact this.1
    show ((a.toNat : Nat) : Int) :: ((l.map Int.toNat).map fun (n : Nat) => (n : Int)) = a :: l
    rw [ih]
    congr 1
    omega
theorem callOf_some {l : List Int} (h : (Or01Neutral.callOf l).isSome = true) : l.all Or01Neutral.nat = true ∧ ∃ x, Or01Neutral.callOf l = some x ∧ Or01Neutral.callIn (l.map Int.toNat) = some x := by
  unfold Or01Neutral.callOf at *
  split at h
  · cases h
  · rename_i hn
    rw [if_neg hn]
    obtain ⟨x, e⟩ := Option.isSome_iff_exists.mp h
    exact ⟨by simpa using hn, x, e, e⟩
theorem len1 {r : List Int} {n : Nat} (h : n ≤ r.length) : (r.take n).length = n := by rw [List.length_take]; omega
theorem take_one {r : List Int} (h : 1 ≤ r.length) : ∃ a, r.take 1 = [a] := by
  match r, h with
  | a :: _, _ => exact ⟨a, rfl⟩
theorem take_two {r : List Int} (h : 2 ≤ r.length) : ∃ a b, r.take 2 = [a, b] := by
  match r, h with
  | a :: b :: _, _ => exact ⟨a, b, rfl⟩
theorem take_three {r : List Int} (h : 3 ≤ r.length) : ∃ a b c, r.take 3 = [a, b, c] := by
  match r, h with
  | a :: b :: c :: _, _ => exact ⟨a, b, c, rfl⟩
theorem callIs_of {l : List Int} {c : List (List Int)} {t : List Int} (h : PyFlat.call PyOr01.shape l = some (c, t)) (ha : Or01Neutral.asked1 ((PyOr01.whole c).headD []) = true) : ∃ x, CallIs c x := by
  obtain ⟨i, n, r, rfl, hi, hn, hr, hc⟩ := call_one h
  obtain ⟨hall, x, e1, e2⟩ := callOf_some ha
  rcases hc with ⟨h5, rfl, rfl⟩ | ⟨h5, m, q, rfl, hm, rfl, rfl⟩
  · have fin : ∀ (w : List Int), r.take n = w → (PyOr01.whole [(i : Int) :: w]).headD [] = (i : Int) :: w → callT i (w.map Int.toNat) [] = Or01Neutral.callIn (i :: w.map Int.toNat) → ∃ x, CallIs [(i : Int) :: r.take n] x := fun w ew hw ht => by
      rw [ew, hw] at hall e2 e1
      have hallw : w.all Or01Neutral.nat = true := by
        rw [List.all_cons, Bool.and_eq_true] at hall
        exact hall.2
      refine ⟨x, ⟨i, w.map Int.toNat, [], ?_, ?_⟩, ?_⟩
      · rw [ew]
        show ((i : Int), w, ([] : List Int)) = _
        rw [ints_toNat hallw]
        rfl
      · rw [ht]
        rw [List.map_cons, Int.toNat_natCast] at e2
        exact e2
      · rw [ew, hw]
        exact e1
    have hi' : i = 0 ∨ i = 1 ∨ i = 2 ∨ i = 3 ∨ i = 4 ∨ i = 6 ∨ i = 7 ∨ i = 8 ∨ i = 9 ∨ i = 10 ∨ i = 11 ∨ i = 12 ∨ i = 13 := by omega
    have num : ∀ {i k : Nat}, numN[i]? = some n → numN[i]? = some k → n = k := fun h1 h2 => Option.some.inj (h1.symm.trans h2)
    rcases hi' with rfl | rfl | rfl | rfl | rfl | rfl | rfl | rfl | rfl | rfl | rfl | rfl | rfl
    · cases num hn (show numN[0]? = some 1 from rfl)
      obtain ⟨a, e⟩ := take_one hr
      exact fin _ e rfl rfl
    · cases num hn (show numN[1]? = some 2 from rfl)
      obtain ⟨a, b, e⟩ := take_two hr
      exact fin _ e rfl rfl
    · cases num hn (show numN[2]? = some 0 from rfl)
      exact fin [] (List.take_zero) rfl rfl
    · cases num hn (show numN[3]? = some 0 from rfl)
      exact fin [] (List.take_zero) rfl rfl
    · cases num hn (show numN[4]? = some 1 from rfl)
      obtain ⟨a, e⟩ := take_one hr
      exact fin _ e rfl rfl
    · cases num hn (show numN[6]? = some 2 from rfl)
      obtain ⟨a, b, e⟩ := take_two hr
      exact fin _ e rfl rfl
    · cases num hn (show numN[7]? = some 3 from rfl)
      obtain ⟨a, b, d, e⟩ := take_three hr
      exact fin _ e rfl rfl
    · cases num hn (show numN[8]? = some 1 from rfl)
      obtain ⟨a, e⟩ := take_one hr
      exact fin _ e rfl rfl
    · cases num hn (show numN[9]? = some 0 from rfl)
      exact fin [] (List.take_zero) rfl rfl
    · cases num hn (show numN[10]? = some 0 from rfl)
      exact fin [] (List.take_zero) rfl rfl
    · cases num hn (show numN[11]? = some 0 from rfl)
      exact fin [] (List.take_zero) rfl rfl
    · cases num hn (show numN[12]? = some 0 from rfl)
      exact fin [] (List.take_zero) rfl rfl
    · cases num hn (show numN[13]? = some 2 from rfl)
      obtain ⟨a, b, e⟩ := take_two hr
      exact fin _ e rfl rfl
  · subst h5
    have hw : (PyOr01.whole [[5], q.take m]).headD [] = 5 :: q.take m := rfl
    rw [hw] at hall e2
    have hallw : (q.take m).all Or01Neutral.nat = true := by
      rw [List.all_cons, Bool.and_eq_true] at hall
      exact hall.2
    refine ⟨x, ⟨5, [], (q.take m).map Int.toNat, ?_, ?_⟩, e1⟩
    · show ((5 : Int), ([] : List Int), q.take m) = _
      rw [ints_toNat hallw]
      rfl
    · exact e2
/-! ### a line played -/
def playO : Order → List Or01.Call → List Int
  | _, [] => []
  | o, c :: cs => ((Or01.step o c).2.length : Int) :: (Or01.step o c).2 ++ playO (Or01.step o c).1 cs
inductive CallsAre : List (List (List Int)) → List Or01.Call → Prop where
  | nil : CallsAre [] []
  | cons {c x cs xs} : CallIs c x → CallsAre cs xs → CallsAre (c :: cs) (x :: xs)
theorem callsAre_of : ∀ (cs : List (List (List Int))) (f : Nat) (l : List Int), PyFlat.calls PyOr01.shape f l = some cs → ((cs.map PyOr01.whole).map fun c => c.headD []).all Or01Neutral.asked1 = true → ∃ xs, CallsAre cs xs
  | [], _, _, _, _ => ⟨[], .nil⟩
  | c :: cs, f, l, h, ha => by
    rcases calls_cons h with ⟨_, e⟩ | ⟨f', c', t, r, h1, e, h2⟩
    · cases e
    · cases e
      rw [List.map_cons, List.map_cons, List.all_cons, Bool.and_eq_true] at ha
      obtain ⟨x, hx⟩ := callIs_of h1 ha.1
      obtain ⟨xs, hxs⟩ := callsAre_of cs f' t h2 ha.2
      exact ⟨x :: xs, .cons hx hxs⟩
theorem neutral_step {c : List (List Int)} {x : Or01.Call} (h : CallIs c x) (s : Order) : Or01Neutral.step s ((PyOr01.whole c).headD []) = Or01.step s x := by
  unfold Or01Neutral.step
  rw [h.same]
theorem played_is {cs : List (List (List Int))} {xs : List Or01.Call} (h : CallsAre cs xs) : ∀ s : Order, PyFlat.told (PyFlat.played (fun s c => Or01Neutral.step s (c.headD [])) s (cs.map PyOr01.whole)) = playO s xs := by
  induction h with
  | nil => intro s; rfl
  | @cons c x cs xs hc _ ih =>
    intro s
    have e := neutral_step hc s
    rw [List.map_cons]
    show PyFlat.told ((Or01Neutral.step s ((PyOr01.whole c).headD [])).2 :: PyFlat.played _ (Or01Neutral.step s ((PyOr01.whole c).headD [])).1 (cs.map PyOr01.whole)) = _
    rw [e]
    show (((Or01.step s x).2.length : Int) :: (Or01.step s x).2) ++ PyFlat.told (PyFlat.played _ (Or01.step s x).1 (cs.map PyOr01.whole)) = _
    rw [ih (Or01.step s x).1]
    rfl
theorem many_is {cs : List (List (List Int))} {xs : List Or01.Call} (h : CallsAre cs xs) : ∀ s : Order, (playO s xs).length = Or01Neutral.many s ((cs.map PyOr01.whole).map fun c => c.headD []) + xs.length := by
  induction h with
  | nil => intro s; rfl
  | @cons c x cs xs hc _ ih =>
    intro s
    have e := neutral_step hc s
    have e1 : playO s (x :: xs) = ((Or01.step s x).2.length : Int) :: (Or01.step s x).2 ++ playO (Or01.step s x).1 xs := rfl
    have e2 : Or01Neutral.many s (((c :: cs).map PyOr01.whole).map fun c => c.headD []) = (Or01Neutral.step s ((PyOr01.whole c).headD [])).2.length + Or01Neutral.many (Or01Neutral.step s ((PyOr01.whole c).headD [])).1 ((cs.map PyOr01.whole).map fun c => c.headD []) := rfl
    rw [e1, e2, e, List.length_append, ih (Or01.step s x).1, List.length_cons, List.length_cons]
    omega
theorem callsAre_len {cs : List (List (List Int))} {xs : List Or01.Call} (h : CallsAre cs xs) : cs.length = xs.length := by
  induction h with
  | nil => rfl
  | cons _ _ ih => rw [List.length_cons, List.length_cons, ih]
/-- all that is asked of a line, and what is due -/
theorem asked_is {l : List Int} (h : PyOr01.answers_asked l = true) : ∃ (raw : List (List (List Int))) (xs : List Or01.Call), PyFlat.calls PyOr01.shape l.length l = some raw ∧ CallsAre raw xs ∧ PyOr01.answers l = playO Or01.init xs ∧ xs.length ≤ 30 ∧ (playO Or01.init xs).length ≤ 1000030 := by
  unfold PyOr01.answers_asked at h
  cases e : PyFlat.calls PyOr01.shape l.length l with
  | none => rw [e] at h; cases h
  | some raw =>
    rw [e] at h
    simp only [Bool.and_eq_true] at h
    obtain ⟨⟨⟨⟨_, h30⟩, _⟩, hk⟩, _⟩ := h
    unfold Or01Neutral.asked at hk
    simp only [Bool.and_eq_true, decide_eq_true_iff] at hk
    obtain ⟨ha, _, hl, hm⟩ := hk
    obtain ⟨xs, hx⟩ := callsAre_of raw _ l e ha
    have hlen := callsAre_len hx
    have hl30 : xs.length ≤ 30 := by
      rw [List.length_map, List.length_map] at hl
      omega
    refine ⟨raw, xs, rfl, hx, ?_, hl30, ?_⟩
    · unfold PyOr01.answers PyOr01.calls
      rw [e]
      exact played_is hx Or01.init
    · have := many_is hx Or01.init
      have hs : Or01Neutral.start = Or01.init := rfl
      rw [hs] at hm
      omega
theorem step_good {o : Order} (g : Good o) (c : Or01.Call) : Good (Or01.step o c).1 ∧ (Or01.step o c).1.told.length ≤ o.told.length + 1 := by
  have same : Good o ∧ o.told.length ≤ o.told.length + 1 := ⟨g, Nat.le_succ _⟩
  cases c with
  | things n =>
    show Good (if n = 0 ∨ 7 < n then (o, [-1]) else (⟨n, []⟩, [0])).1 ∧ (if n = 0 ∨ 7 < n then (o, [-1]) else (⟨n, []⟩, [0])).1.told.length ≤ _
    split
    · exact same
    · exact ⟨good_new (by omega) (by omega), by simp⟩
  | less x y =>
    show Good (if isThing o x = false ∨ isThing o y = false ∨ x = y then (o, [-1]) else if below o y x = true then (o, [-6]) else if below o x y = true then (o, [-4]) else (with_ o x y, Or01.ints [(rows (with_ o x y)).length])).1 ∧ (if isThing o x = false ∨ isThing o y = false ∨ x = y then (o, [-1]) else if below o y x = true then (o, [-6]) else if below o x y = true then (o, [-4]) else (with_ o x y, Or01.ints [(rows (with_ o x y)).length])).1.told.length ≤ _
    split
    · exact same
    · rename_i h1
      split
      · exact same
      · rename_i h2
        split
        · exact same
        · have hx : x ∈ things o := by
            apply Classical.byContradiction
            intro n
            apply h1
            left
            rw [mem_things] at n
            unfold isThing
            rw [Bool.and_eq_false_iff, decide_eq_false_iff_not, decide_eq_false_iff_not]
            omega
          have hy : y ∈ things o := by
            apply Classical.byContradiction
            intro n
            apply h1
            right; left
            rw [mem_things] at n
            unfold isThing
            rw [Bool.and_eq_false_iff, decide_eq_false_iff_not, decide_eq_false_iff_not]
            omega
          refine ⟨good_with g hx hy (fun e => h1 (.inr (.inr e))) (fun b => h2 ((below_iff g hy).mpr b)), ?_⟩
          show (o.told ++ [(x, y)]).length ≤ _
          rw [List.length_append, List.length_singleton]
          exact Nat.le_refl _
  | undo =>
    show Good (if o.told = [] then (o, [-3]) else ({ o with told := o.told.dropLast }, Or01.ints [o.told.length - 1])).1 ∧ (if o.told = [] then (o, [-3]) else ({ o with told := o.told.dropLast }, Or01.ints [o.told.length - 1])).1.told.length ≤ _
    split
    · exact same
    · refine ⟨good_undo g, ?_⟩
      show o.told.dropLast.length ≤ _
      rw [List.length_dropLast]
      omega
  | many => exact same
  | nth k => exact same
  | rank l => exact same
  | chance x y => exact same
  | both x y z => exact same
  | spread x => exact same
  | fairest => exact same
  | fewest => exact same
  | next => exact same
  | likely => exact same
  | is x y => exact same
end Oo
namespace OX
open PySem PySem.Spec PyProof.Rows L2

/-! ### a dict whose keys are tuples of tuples of whole numbers, its values whole numbers -/
def nV (r : List Nat) : List V := r.map fun (n : Nat) => V.int (n : Int)
def rowK (r : List Nat) : NestedKey := .tup (r.map fun (n : Nat) => NestedKey.num (n : Int))
def keyK (rs : List (List Nat)) : NestedKey := .tup (rs.map rowK)
theorem nums_inj : ∀ {r s : List Nat}, (r.map fun (n : Nat) => NestedKey.num (n : Int)) = (s.map fun (n : Nat) => NestedKey.num (n : Int)) → r = s
  | [], [], _ => rfl
  | [], _ :: _, h => by simp at h
  | _ :: _, [], h => by simp at h
  | a :: r, b :: s, h => by
    rw [List.map_cons, List.map_cons] at h
    injection h with h1 h2
    injection h1 with h1
    rw [nums_inj h2, Int.ofNat.inj h1]
theorem rowK_inj {r s : List Nat} (h : rowK r = rowK s) : r = s := by
  injection h with h
  exact nums_inj h
theorem keyK_inj : ∀ {r s : List (List Nat)}, keyK r = keyK s → r = s := by
  have go : ∀ {r s : List (List Nat)}, r.map rowK = s.map rowK → r = s := by
    intro r
    induction r with
    | nil => intro s h; cases s with
      | nil => rfl
      | cons b s => simp at h
    | cons a r ih => intro s h; cases s with
      | nil => simp at h
      | cons b s =>
        rw [List.map_cons, List.map_cons] at h
        injection h with h1 h2
        rw [rowK_inj h1, ih h2]
  intro r s h
  injection h with h
  exact go h
/-- at b stands a tuple of tuples: the rows -/
def KeyT (H : Hp) (b : Addr) (rs : List (List Nat)) : Prop := ∃ qs : List Addr, H b = some (.tup (qs.map V.ref)) ∧ Paired (fun q r => H q = some (.tup (nV r))) qs rs
theorem paired_mono {α β : Type} {F G : α → β → Prop} (h : ∀ a b, F a b → G a b) : ∀ {l : List α} {m : List β}, Paired F l m → Paired G l m
  | _, _, .nil => .nil
  | _, _, .cons r t => .cons (h _ _ r) (paired_mono h t)
theorem KeyT.same {H H' : Hp} {b : Addr} {rs : List (List Nat)} (s : ∀ b xs, H b = some (.tup xs) → H' b = some (.tup xs)) (h : KeyT H b rs) : KeyT H' b rs := by
  obtain ⟨qs, h1, h2⟩ := h
  exact ⟨qs, s _ _ h1, paired_mono (fun _ _ e => s _ _ e) h2⟩
section
variable {P : Program} {w : World} {H : Hp} {h : Heap}
theorem row_is (ok : HOk P w H h) {q : Addr} {r : List Nat} (e : H q = some (.tup (nV r))) : NestedIs h (rowK r) (.ref q) := by
  obtain ⟨_, its, rv, o, h1, h2, n, h3⟩ := (show ObjOk P w H h q (.tup (nV r)) from ok q _ e)
  refine .tup h1 h2 h3 ?_
  have go : ∀ (r : List Nat) (its : List Value), Vals (nV r) its → NestedAll h (r.map fun (n : Nat) => NestedKey.num (n : Int)) its := by
    intro r
    induction r with
    | nil => intro its rv; cases rv; exact .nil
    | cons a r ih =>
      intro its rv
      cases rv with
      | cons r1 r2 =>
        obtain ⟨t, rfl⟩ := r1
        exact .cons (.int _ t) (ih _ r2)
  simpa using go r its rv
theorem row_depth (r : List Nat) : (rowK r).depth = 1 := by
  have go : ∀ r : List Nat, NestedKey.depthAll (r.map fun (n : Nat) => NestedKey.num (n : Int)) = 0 := by
    intro r
    induction r with
    | nil => simp [NestedKey.depthAll]
    | cons a r ih => simp [NestedKey.depthAll, NestedKey.depth, ih]
  simp [rowK, NestedKey.depth, go]
theorem key_depth (rs : List (List Nat)) : (keyK rs).depth ≤ 8 := by
  have go : ∀ rs : List (List Nat), NestedKey.depthAll (rs.map rowK) ≤ 1 := by
    intro rs
    induction rs with
    | nil => simp [NestedKey.depthAll]
    | cons a rs ih => simp only [List.map_cons, NestedKey.depthAll, row_depth]; omega
  simp only [keyK, NestedKey.depth]
  have := go rs
  omega
theorem key_is (ok : HOk P w H h) {b : Addr} {rs : List (List Nat)} (k : KeyT H b rs) : (nestedKind P w).is h (keyK rs) b := by
  refine ⟨?_, key_depth rs⟩
  obtain ⟨qs, e, hp⟩ := k
  obtain ⟨_, its, rv, o, h1, h2, n, h3⟩ := (show ObjOk P w H h b (.tup (qs.map V.ref)) from ok b _ e)
  refine .tup h1 h2 h3 ?_
  have go : ∀ (qs : List Addr) (rs : List (List Nat)) (its : List Value), Paired (fun q r => H q = some (.tup (nV r))) qs rs → Vals (qs.map V.ref) its → NestedAll h (rs.map rowK) its := by
    intro qs rs its hp
    induction hp generalizing its with
    | nil => intro rv; cases rv; exact .nil
    | cons r1 _ ih =>
      intro rv
      cases rv with
      | cons v1 v2 =>
        cases v1
        exact .cons (row_is ok r1) (ih _ v2)
  simpa using go qs rs its hp rv
end
abbrev Kn := List (List (List Nat) × Addr × Int)
def KnR (k : List (List Nat) × Addr × Int) (x : NestedKey × Addr × Value) : Prop := x.1 = keyK k.1 ∧ x.2.1 = k.2.1 ∧ ∃ t, x.2.2 = .int k.2.2 t
/-- the dict's object -/
def knPhi (P : Program) (w : World) (a : Addr) (ks : Kn) : Heap → Prop := fun h => ks.length ≤ sizeLine ∧ (a == sysModules) = false ∧ ∃ xs : List (NestedKey × Addr × Value), Paired KnR ks xs ∧
  ∃ o es ep, h.get? a = some o ∧ o.ExactDict ∧ o.data = .dict es ep ∧ es.toList = xs.map (entryOfKey (nestedKind P w)) ∧ (xs.map (·.1)).Nodup
def KnO (P : Program) (w : World) (a : Addr) (ks : Kn) : HO := .ext (knPhi P w a ks)
/-- at a stands the dict with these keys and values -/
def KnAt (P : Program) (w : World) (H : Hp) (a : Addr) (ks : Kn) : Prop := H a = some (KnO P w a ks) ∧ ∀ k ∈ ks, KeyT H k.2.1 k.1
def kget (ks : Kn) (rs : List (List Nat)) : Option Int := (ks.find? fun k => decide (k.1 = rs)).map (·.2.2)
section
variable {P : Program} {w : World} {H : Hp} {h : Heap} {a : Addr} {ks : Kn}
theorem kn_ok {H' : Hp} (q : knPhi P w a ks h) : ObjOk P w H' h a (KnO P w a ks) := by
  refine ⟨q, ?_, fun h1 h2 q1 st => ?_⟩
  · obtain ⟨_, _, _, _, o, _, _, e, _⟩ := q
    exact ⟨o, e⟩
  · obtain ⟨z, y, xs, r, o, es, ep, e, c⟩ := q1
    exact ⟨z, y, xs, r, o, es, ep, st _ e, c⟩
theorem kn_at (ok : HOk P w H h) (q : KnAt P w H a ks) : ks.length ≤ sizeLine ∧ (a == sysModules) = false ∧ ∃ xs, Paired KnR ks xs ∧ h.DictOfH (nestedKind P w) a xs := by
  obtain ⟨e, hk⟩ := q
  obtain ⟨⟨z, y, xs, r, o, es, ep, h1, h2, h3, h4, h5⟩, _⟩ := (show ObjOk P w H h a (KnO P w a ks) from ok a _ e)
  refine ⟨z, y, xs, r, o, es, ep, h1, h2, h3, h4, ?_, h5⟩
  clear h4 h5 z e
  intro x hx
  have go : ∀ {l : Kn} {m : List (NestedKey × Addr × Value)}, Paired KnR l m → (∀ k ∈ l, KeyT H k.2.1 k.1) → ∀ x ∈ m, (nestedKind P w).is h x.1 x.2.1 := by
    intro l m q
    induction q with
    | nil => intro _ x hx; exact nomatch hx
    | @cons p q ps qs hq t ih =>
      intro hl x hx
      rcases List.mem_cons.mp hx with e | hx
      · subst e
        rw [hq.1, hq.2.1]
        exact key_is ok (hl p List.mem_cons_self)
      · exact ih (fun k hk => hl k (List.mem_cons_of_mem _ hk)) x hx
  exact go r hk x hx
theorem kn_get : ∀ {ks : Kn} {xs : List (NestedKey × Addr × Value)}, Paired KnR ks xs → ∀ rs, (kget ks rs = none → atKey xs (keyK rs) = none) ∧ ∀ v, kget ks rs = some v → ∃ p t, atKey xs (keyK rs) = some p ∧ p.2 = .int v t := by
  intro ks xs r
  induction r with
  | nil => intro rs; exact ⟨fun _ => rfl, fun v h => by simp [kget] at h⟩
  | @cons p q ps qs hq t ih =>
    intro rs
    obtain ⟨h1, h2, t', h3⟩ := hq
    by_cases c : p.1 = rs
    · have c' : q.1 = keyK rs := by rw [h1, c]
      refine ⟨fun h => ?_, fun v h => ?_⟩
      · simp [kget, List.find?_cons, c] at h
      · simp only [kget, List.find?_cons, c, decide_true, Option.map_some] at h
        refine ⟨q.2, t', by simp [atKey, List.find?_cons, c'], ?_⟩
        rw [h3, Option.some.inj h]
    · have c' : q.1 ≠ keyK rs := fun e => c (keyK_inj (h1.symm.trans e))
      have e1 : kget (p :: ps) rs = kget ps rs := by simp [kget, List.find?_cons, c]
      have e2 : atKey (q :: qs) (keyK rs) = atKey qs (keyK rs) := by simp [atKey, List.find?_cons, c']
      rw [e1, e2]
      exact ih rs
theorem kn_put {ks : Kn} {xs : List (NestedKey × Addr × Value)} (r : Paired KnR ks xs) {rs : List (List Nat)} (hn : kget ks rs = none) {b : Addr} {v : Int} {t : Tok} : Paired KnR (ks ++ [(rs, b, v)]) (storedH xs (keyK rs) b (.int v t)) := by
  rw [storedH_new ((kn_get r rs).1 hn)]
  exact Paired.snoc r ⟨rfl, rfl, t, rfl⟩
end
section
variable {X : Cx} {pins : List (Addr × Obj)} {σ : L2.St} {H : Hp} {s : Shared} {a b : Addr} {ks : Kn} {rs : List (List Nat)} {A : Around} {E : Value → Shared → Prop}
theorem kn_room (hu : X.A.units + 64 < cLine) : (nestedKind X.prog X.w).room X.A.in1 := by
  show X.A.in1.units + 8 < cLine
  rw [Around.in1_units]
  omega
/-- k not in d -/
def rKnot (P : Program) (w : World) : R2 := fun x y H Q => ∃ a b ks rs, x = .ref b ∧ y = .ref a ∧ KnAt P w H a ks ∧ KeyT H b rs ∧ Q (.bl (!(kget ks rs).isSome)) H
theorem op_knot (hu : X.A.units + 64 < cLine) : OpR X (compareOp .NotIn) (rKnot X.prog X.w) := by
  intro pins s σ H x y v u Q I rx ry h
  obtain ⟨a, b, ks, rs, rfl, rfl, hk, hb, q⟩ := h
  cases rx
  cases ry
  obtain ⟨z, hd, xs, rel, dd⟩ := kn_at I.hok hk
  refine wpAny_notIn_heap (kn_room hu) (key_is I.hok hb) hd dd ?_
  have e : (atKey xs (keyK rs)).isSome = (kget ks rs).isSome := by
    cases c : kget ks rs with
    | none =>
      rw [(kn_get rel rs).1 c]
      rfl
    | some v =>
      obtain ⟨p, t, e, _⟩ := (kn_get rel rs).2 v c
      rw [e]; rfl
  rw [e]
  exact ⟨.bl _, H, I.tok _, rfl, q⟩
/-- d[k] -/
def tKget (P : Program) (w : World) (td ty : TE) : TE := fun σ H Q => td σ H fun x H1 => ty σ H1 fun y H2 => ∃ a b ks rs v, x = .ref a ∧ y = .ref b ∧ KnAt P w H2 a ks ∧ KeyT H2 b rs ∧ kget ks rs = some v ∧ Q (.int v) H2
theorem pe_kget {o i : Expr} {td ty : TE} {pos : Pos} (hu : X.A.units + 64 < cLine) (ho : PE X o td) (hi : PE X i ty) (hs : NoSl i) : PE X (.Subscript o i pos) (tKget X.prog X.w td ty) := by
  refine ⟨fun pins s σ H Q I h => ?_⟩
  refine subD_of (env := X.env) PySem.F.slot_dict_getitem.lookup hs (thn (ho.run pins s σ H _ I h) fun u s1 ⟨x, H1, I1, rx, q1⟩ => thn (hi.run pins s1 σ H1 _ I1 q1) fun iv s2 ⟨y, H2, I2, ry, a, b, ks, rs, v, ex, ey, hk, hb, hv, q2⟩ => ?_)
  subst ex ey
  cases (show u = Value.ref a from rx)
  cases (show iv = Value.ref b from ry)
  obtain ⟨z, hd, xs, rel, dd⟩ := kn_at I2.hok hk
  obtain ⟨p, t, e1, e2⟩ := (kn_get rel rs).2 v hv
  refine ⟨dd.typeIs, wpAny_getItem_heap (kn_room hu) (key_is I2.hok hb) dd e1 ?_⟩
  exact ⟨.int v, H2, I2.tok _, ⟨t, e2⟩, q2⟩
/-- d[k] = v, a new key -/
def sKput (P : Program) (w : World) (td ty tv : TE) : TS := fun D σ H => tv σ H fun v H1 => td σ H1 fun x H2 => ty σ H2 fun y H3 => ∃ a b ks rs i, x = .ref a ∧ y = .ref b ∧ v = .int i ∧ KnAt P w H3 a ks ∧ KeyT H3 b rs ∧ kget ks rs = none ∧ ks.length < sizeLine ∧
  D.nx σ (upd H3 a (KnO P w a (ks ++ [(rs, b, i)])))
theorem ps_kput {o i value : Expr} {td ty tv : TE} {pos pos' : Pos} (hu : X.A.units + 64 < cLine) (ho : PE X o td) (hi : PE X i ty) (hv : PE X value tv) (hs : swapsWith value (some (.Subscript o i pos')) pos.line X.env = pure false) :
    PS X (.Assign [.Subscript o i pos'] value pos) (sKput X.prog X.w td ty tv) := by
  refine ⟨fun pins s σ H D I h => ?_⟩
  refine wpAny_Assign_Subscript (thn (hv.run pins s σ H _ I h) fun r s1 ⟨v, H1, I1, rv, q1⟩ => thn (ho.run pins s1 σ H1 _ I1 q1) fun u s2 ⟨x, H2, I2, rx, q2⟩ => thn (hi.run pins s2 σ H2 _ I2 q2) fun iv s3 ⟨y, H3, I3, ry, a, b, ks, rs, n, ex, ey, ev, hk, hb, hn, hl, q3⟩ => ?_) hs
  subst ex ey ev
  cases (show u = Value.ref a from rx)
  cases (show iv = Value.ref b from ry)
  obtain ⟨t, rfl⟩ := rv
  obtain ⟨z, hd, xs, rel, dd⟩ := kn_at I3.hok hk
  have hz : xs.length ≤ sizeLine := by rw [← Paired.length rel]; exact z
  refine wpAny_setItem_heap (hsz := hz) (kn_room hu) (key_is I3.hok hb) dd fun h' dd' hs => ?_
  refine ⟨σ, _, ?_, q3⟩
  obtain ⟨ob, es, ep, ho', h2, h3, h4, _, h5⟩ := dd'
  refine d_write I3 (by rw [hk.1]; exact True.intro) hs ⟨ob, ho'⟩ (kn_ok ⟨?_, hd, _, kn_put rel hn (b := b) (v := n) (t := t), ob, es, ep, ho', h2, h3, h4, h5⟩)
  rw [List.length_append, List.length_singleton]
  exact hl
theorem kn_put_at {P : Program} {w : World} {H : Hp} {a b : Addr} {ks : Kn} {rs : List (List Nat)} {i : Int} (hk : KnAt P w H a ks) (hb : KeyT H b rs) : KnAt P w (upd H a (KnO P w a (ks ++ [(rs, b, i)]))) a (ks ++ [(rs, b, i)]) := by
  have st : ∀ c xs, H c = some (.tup xs) → upd H a (KnO P w a (ks ++ [(rs, b, i)])) c = some (.tup xs) := fun c xs e => by
    rw [upd_ne (ne_of e hk.1 (fun z => nomatch z))]
    exact e
  refine ⟨upd_same, fun k hk' => ?_⟩
  rcases List.mem_append.mp hk' with q | q
  · exact (hk.2 k q).same st
  · rw [List.mem_singleton.mp q]
    exact hb.same st
theorem KnAt.same {P : Program} {w : World} {H H' : Hp} (s : Same H H') {a : Addr} {ks : Kn} (h : KnAt P w H a ks) : KnAt P w H' a ks := ⟨s _ _ h.1, fun k hk => (h.2 k hk).same fun b xs e => s b _ e⟩
/-- {} -/
def tKnew (P : Program) (w : World) : TE := fun _ H Q => ∀ p, H p = none → Q (.ref p) (upd H p (KnO P w p []))
theorem pe_knew {pos : Pos} : PE X (.Dict [] [] pos) (tKnew X.prog X.w) := ⟨fun pins s σ H Q I h =>
  wpAny_Dict_empty ⟨.ref s.heap.objs.size, _, I.laid (a := s.heap.objs.size) (o := KnO X.prog X.w s.heap.objs.size []) (t' := s.toks) (fun _ _ q => Heap.get?_push_of_some _ q) (Nat.le_refl _)
    (kn_ok ⟨Nat.zero_le _, beq_eq_false_iff_ne.mpr (Ne.symm (Nat.ne_of_lt I.big)), [], .nil, _, #[], 0, Heap.get?_push_size _ rfl, ⟨rfl, rfl, rfl⟩, rfl, rfl, List.nodup_nil⟩), rfl, h _ (I.hok.fresh (Nat.le_refl _))⟩⟩
end

/-! ### found[i] += e of a list -/
section
variable {X : Cx}
def rGetN : V → V → Hp → VK → Prop := fun o i H Q => ∃ p xs j v, o = .ref p ∧ i = .int ((j : Nat) : Int) ∧ H p = some (.lst xs) ∧ xs[j]? = some v ∧ Q v H
theorem get_list : PGet X rGetN := by
  intro pins s σ H o i ov iv Q I ro ri h
  obtain ⟨p, xs, j, v, rfl, rfl, hp, hv, q⟩ := h
  cases ro
  obtain ⟨t, rfl⟩ := ri
  obtain ⟨its, n, r, ho, hz⟩ := I.lst hp
  obtain ⟨u, hu, ru⟩ := r.get hv
  have hl := r.length
  have hn := line63
  have hj : j < xs.length := (List.getElem?_eq_some_iff.mp hv).1
  refine wpAny_getItem_list (Q := EP X pins σ Q) (s := s) (items := its.toArray) ⟨_, ho, rfl, n, rfl⟩ (by omega) (by simp; omega) (by simpa using hu) ?_
  exact ⟨v, H, I, ru, q⟩
end

/-! ### min of a list of tuples of four whole numbers -/
abbrev Q4 := Int × Int × Int × Int
def q4V (z : Q4) : List V := [.int z.1, .int z.2.1, .int z.2.2.1, .int z.2.2.2]
def q4D (z : Q4) : PyData := .tuple [.int z.1, .int z.2.1, .int z.2.2.1, .int z.2.2.2]
def Q4Lt (u z : Q4) : Prop := u.1 < z.1 ∨ (u.1 = z.1 ∧ (u.2.1 < z.2.1 ∨ (u.2.1 = z.2.1 ∧ (u.2.2.1 < z.2.2.1 ∨ (u.2.2.1 = z.2.2.1 ∧ u.2.2.2 < z.2.2.2)))))
instance (u z : Q4) : Decidable (Q4Lt u z) := by unfold Q4Lt; exact inferInstance
theorem q4_lt (u z : Q4) : PySem.W.dataLt (q4D u) (q4D z) = decide (Q4Lt u z) := by
  have h := PySem.W.DatumOrd.lt_eq (α := PySem.W.T4 Int Int Int Int) ⟨u.1, u.2.1, u.2.2.1, u.2.2.2⟩ ⟨z.1, z.2.1, z.2.2.1, z.2.2.2⟩
  refine (show PySem.W.dataLt (q4D u) (q4D z) = _ from h).trans ?_
  show (if u.1 = z.1 then (if u.2.1 = z.2.1 then (if u.2.2.1 = z.2.2.1 then decide (u.2.2.2 < z.2.2.2) else decide (u.2.2.1 < z.2.2.1)) else decide (u.2.1 < z.2.1)) else decide (u.1 < z.1)) = _
  rw [Bool.eq_iff_iff, decide_eq_true_iff]
  unfold Q4Lt
  split
  · split
    · split
      · rw [decide_eq_true_iff]; omega
      · rw [decide_eq_true_iff]; omega
    · rw [decide_eq_true_iff]; omega
  · rw [decide_eq_true_iff]; omega
theorem q4_fold : ∀ (zs : List Q4) (z0 : Q4), ∃ m, PySem.W.minD (q4D z0) (zs.map q4D) = q4D m ∧ m ∈ z0 :: zs ∧ ∀ u ∈ z0 :: zs, ¬ Q4Lt u m
  | [], z0 => ⟨z0, rfl, List.mem_cons_self, fun u hu => by rw [List.mem_singleton.mp hu]; unfold Q4Lt; omega⟩
  | z :: zs, z0 => by
    have e : PySem.W.minD (q4D z0) ((z :: zs).map q4D) = PySem.W.minD (q4D (if Q4Lt z z0 then z else z0)) (zs.map q4D) := by
      show PySem.W.minD (if PySem.W.dataLt (q4D z) (q4D z0) = true then q4D z else q4D z0) (zs.map q4D) = _
      rw [q4_lt]
      by_cases c : Q4Lt z z0
      · rw [if_pos (decide_eq_true c), if_pos c]
      · rw [if_neg (by simpa using c), if_neg c]
    obtain ⟨m, h1, h2, h3⟩ := q4_fold zs (if Q4Lt z z0 then z else z0)
    refine ⟨m, e.trans h1, ?_, fun u hu => ?_⟩
    · rcases List.mem_cons.mp h2 with q | q
      · rw [q]
        by_cases c : Q4Lt z z0
        · rw [if_pos c]; exact List.mem_cons_of_mem _ List.mem_cons_self
        · rw [if_neg c]; exact List.mem_cons_self
      · exact List.mem_cons_of_mem _ (List.mem_cons_of_mem _ q)
    · have h0 := h3 _ List.mem_cons_self
      by_cases c : Q4Lt z z0
      · rw [if_pos c] at h0
        rcases List.mem_cons.mp hu with rfl | hu
        · unfold Q4Lt at *; omega
        · rcases List.mem_cons.mp hu with rfl | hu
          · exact h0
          · exact h3 u (List.mem_cons_of_mem _ hu)
      · rw [if_neg c] at h0
        rcases List.mem_cons.mp hu with rfl | hu
        · exact h0
        · rcases List.mem_cons.mp hu with rfl | hu
          · unfold Q4Lt at *; omega
          · exact h3 u (List.mem_cons_of_mem _ hu)
theorem q4_plain (z : Q4) : (q4D z).plain = true := rfl
theorem q4D_inj {u z : Q4} (h : q4D u = q4D z) : u = z := by
  obtain ⟨a, b, c, d⟩ := u
  obtain ⟨a', b', c', d'⟩ := z
  simp only [q4D, PyData.tuple.injEq, List.cons.injEq, PyData.int.injEq, and_true] at h
  obtain ⟨h1, h2, h3, h4⟩ := h
  subst h1 h2 h3 h4
  rfl
section
variable {X : Cx}
def rMin4 (K : PySem.W.Frag) : List V → Hp → VK → Prop := fun vs H Q => ∃ (a : Addr) (ads : List Addr) (zs : List Q4), vs = [V.ref a] ∧ SqL K H a (ads.map V.ref) ∧ Paired (fun b z => H b = some (.tup (q4V z))) ads zs ∧ zs ≠ [] ∧
  ∀ b z, H b = some (.tup (q4V z)) → z ∈ zs → (∀ u ∈ zs, ¬ Q4Lt u z) → Q (.ref b) H
theorem q4_dp {K : PySem.W.Frag} {H : Hp} {b : Addr} {z : Q4} (e : H b = some (.tup (q4V z))) : Dp K H (.ref b) (q4D z) := .tup (SqT.of e) (.cons (.int _) (.cons (.int _) (.cons (.int _) (.cons (.int _) .nil))))
theorem q4_dps {K : PySem.W.Frag} {H : Hp} : ∀ {ads : List Addr} {zs : List Q4}, Paired (fun b z => H b = some (.tup (q4V z))) ads zs → DpAll K H (ads.map V.ref) (zs.map q4D)
  | _, _, .nil => .nil
  | _, _, .cons r t => .cons (q4_dp r) (q4_dps t)
theorem paired_get {α β : Type} {F : α → β → Prop} : ∀ {l : List α} {m : List β} {i : Nat} {x : α}, Paired F l m → l[i]? = some x → ∃ y, m[i]? = some y ∧ F x y
  | _, _, _, _, .nil, e => by simp at e
  | _, _, 0, _, .cons r _, e => by simp at e; subst e; exact ⟨_, rfl, r⟩
  | _, _, i + 1, x, .cons _ t, e => by
    obtain ⟨u, h1, h2⟩ := paired_get (i := i) (x := x) t (by simpa using e)
    exact ⟨u, by simpa using h1, h2⟩
theorem cr_min4 (hc : X.calm = true) (hu : X.A.units + 64 < cLine) : CallR X (.builtin "min") (rMin4 X.K) := by
  intro pins s σ H vs us Q I r h
  obtain ⟨a, ads, zs, rfl, hs, hp, hne, q⟩ := h
  obtain ⟨its, rv, hl, _⟩ := I.list hs
  rw [Vals.ref1 r]
  obtain ⟨z0, zr, rfl⟩ : ∃ z0 zr, zs = z0 :: zr := by
    cases zs with
    | nil => exact absurd rfl hne
    | cons z zr => exact ⟨z, zr, rfl⟩
  obtain ⟨as, hr⟩ := Dp.readsAll I ((z0 :: zr).map q4D) _ its (q4_dps hp) rv
  have hd : PyData.depthAll ((z0 :: zr).map q4D) ≤ 1 := by
    have go : ∀ l : List Q4, PyData.depthAll (l.map q4D) ≤ 1 := by
      intro l
      induction l with
      | nil => simp [PyData.depthAll]
      | cons a l ih =>
        have e : (q4D a).depth = 1 := by simp [q4D, PyData.depth, PyData.depthAll]
        simp only [List.map_cons, PyData.depthAll, e]
        omega
    exact go _
  have hal : PySem.W.AlikeAll ((z0 :: zr).map q4D) := by
    refine ⟨fun x hx y hy => ?_, fun x hx => ?_⟩
    · obtain ⟨u, _, rfl⟩ := List.mem_map.mp hx
      obtain ⟨v, _, rfl⟩ := List.mem_map.mp hy
      simp [q4D, PySem.W.alike, PySem.W.alikeAll]
    · obtain ⟨u, _, rfl⟩ := List.mem_map.mp hx
      intro e
      cases e
  refine PySem.W.min_list_data (x := q4D z0) (xs := zr.map q4D) (as := as) (I.ok.hd hc) hl.isList (by simpa using hr) hal (by simp only [List.map_cons] at hd; omega) fun i v h' tk bs hv hrd hk => ?_
  have hi : its[i]? = some v := by simpa using hv
  have hil : i < its.length := (List.getElem?_eq_some_iff.mp hi).1
  have hla := rv.length
  rw [List.length_map] at hla
  obtain ⟨b, hb⟩ : ∃ b, ads[i]? = some b := ⟨ads[i]'(by omega), List.getElem?_eq_getElem (by omega)⟩
  obtain ⟨u, hu1, hu2⟩ := rv.get (i := i) (x := .ref b) (by rw [List.getElem?_map, hb]; rfl)
  rw [hi] at hu1
  cases hu1
  cases hu2
  obtain ⟨z, hz, ez⟩ := paired_get hp hb
  have I' : Inv X pins σ H { s with heap := h', toks := tk } := I.kept hk
  obtain ⟨bs', r2⟩ := Dp.reads I' (q4D z) (.ref b) (.ref b) (q4_dp ez) rfl
  obtain ⟨m, hm1, hm2, hm3⟩ := q4_fold zr z0
  rw [hm1] at hrd
  have e := q4D_inj (PySem.SeqAt.plain_unique (q4D m) (q4D z) _ _ _ (q4_plain m) hrd r2)
  subst e
  exact ⟨.ref b, H, I', rfl, q b m ez hm2 hm3⟩
end
end OX
/-! the text, heaps, promises -/
namespace OW
open PySem PySem.Spec PyProof.Rows L2 OX
open Or01 (Order things below)
open Oo (Good Bel mem_things)

/-! ### the text -/
def topS (i : Nat) : Stmt := PySem.Challenge.pw_openorder_s01_answers.main.body.getD i (.Pass ⟨0, 0, 0, 0⟩)

/-! ### heaps -/
theorem same_upd {H : Hp} {p : Addr} {o : HO} (h : H p = none) : Same H (upd H p o) := fun b x e => by
  rw [upd_ne (ne_of_none e h)]
  exact e
def pV (z : Nat × Nat) : List V := [.int (z.1 : Nat), .int (z.2 : Nat)]
/-- at p a list of pairs -/
def PairsAt (H : Hp) (p : Addr) (ps : List (Nat × Nat)) : Prop := ∃ qs : List Addr, H p = some (.lst (qs.map V.ref)) ∧ Paired (fun q z => H q = some (.tup (pV z))) qs ps
/-- at p a list of rows -/
def RowsAt (H : Hp) (p : Addr) (rs : List (List Nat)) : Prop := ∃ qs : List Addr, H p = some (.lst (qs.map V.ref)) ∧ Paired (fun q r => H q = some (.lst (nV r))) qs rs
theorem PairsAt.same {H H' : Hp} (s : Same H H') {p : Addr} {ps : List (Nat × Nat)} (h : PairsAt H p ps) : PairsAt H' p ps := by
  obtain ⟨qs, h1, h2⟩ := h
  exact ⟨qs, s _ _ h1, paired_mono (fun _ _ e => s _ _ e) h2⟩
theorem RowsAt.same {H H' : Hp} (s : Same H H') {p : Addr} {rs : List (List Nat)} (h : RowsAt H p rs) : RowsAt H' p rs := by
  obtain ⟨qs, h1, h2⟩ := h
  exact ⟨qs, s _ _ h1, paired_mono (fun _ _ e => s _ _ e) h2⟩
def ordF (m : Nat) (t : Addr) : List (Str × V) := [("many", .int (m : Nat)), ("told", .ref t)]
/-- at a the order o, its pairs at t -/
def OrdAt (C : Addr) (H : Hp) (a t : Addr) (o : Order) : Prop := ∃ dx, H a = some (.ins C dx (ordF o.many t)) ∧ PairsAt H t o.told
theorem OrdAt.same {C : Addr} {H H' : Hp} (s : Same H H') {a t : Addr} {o : Order} (h : OrdAt C H a t o) : OrdAt C H' a t o := by
  obtain ⟨dx, h1, h2⟩ := h
  exact ⟨dx, s _ _ h1, h2.same s⟩
theorem lk_here {k : Str} {v : V} {r : List (Str × V)} : List.lookup k ((k, v) :: r) = some v := by
  have e : (k == k) = true := beq_self_eq_true k
  simp only [List.lookup, e]
theorem lk_past {k g : Str} {v : V} {r : List (Str × V)} (h : (k == g) = false) : List.lookup k ((g, v) :: r) = List.lookup k r := by
  simp only [List.lookup, h]
theorem ordF_many (m : Nat) (t : Addr) : (ordF m t).lookup ("many" : Str) = some (.int (m : Nat)) := lk_here
theorem ordF_told (m : Nat) (t : Addr) : (ordF m t).lookup ("told" : Str) = some (.ref t) := (lk_past (by decide +kernel)).trans lk_here
theorem Toy.if_true_of {c : Bool} {A B : Prop} (hc : c = true) (h : A) : if c = true then A else B := by
  rw [if_pos hc]
  exact h
theorem Toy.if_false_of {c : Bool} {A B : Prop} (hc : c = false) (h : B) : if c = true then A else B := by
  rw [hc, if_neg Bool.false_ne_true]
  exact h
theorem nV_len (r : List Nat) : (nV r).length = r.length := List.length_map _
theorem small {n : Nat} (h : n ≤ 16777215) : n < sizeLine := by rw [sizeLine_eq]; omega
theorem paired_len {α β : Type} {F : α → β → Prop} : ∀ {l : List α} {m : List β}, Paired F l m → l.length = m.length
  | _, _, .nil => rfl
  | _, _, .cons _ t => by rw [List.length_cons, List.length_cons, paired_len t]
theorem nV_get {r : List Nat} {i : Nat} {x : V} (h : (nV r)[i]? = some x) : ∃ n, r[i]? = some n ∧ x = .int (n : Nat) := by
  unfold nV at h
  rw [List.getElem?_map] at h
  cases e : r[i]? with
  | none => rw [e] at h; cases h
  | some n => rw [e] at h; exact ⟨n, rfl, (Option.some.inj h).symm⟩
theorem nV_snoc (r : List Nat) (n : Nat) : nV (r ++ [n]) = nV r ++ [.int (n : Nat)] := by
  unfold nV
  rw [List.map_append]
  rfl
theorem ref_get {qs : List Addr} {i : Nat} {y : V} (h : (qs.map V.ref)[i]? = some y) : ∃ q, qs[i]? = some q ∧ y = .ref q := by
  rw [List.getElem?_map] at h
  cases e : qs[i]? with
  | none => rw [e] at h; cases h
  | some q => rw [e] at h; exact ⟨q, rfl, (Option.some.inj h).symm⟩
theorem flat_nV : ∀ r : List Nat, (nV r).all flatV = true := fun r => by
  rw [List.all_eq_true]
  intro x hx
  obtain ⟨n, _, rfl⟩ := List.mem_map.mp hx
  rfl
theorem inV_nV (n : Nat) (r : List Nat) : inV (.int (n : Nat)) (nV r) = r.contains n := by
  unfold inV nV
  rw [List.any_map, Bool.eq_iff_iff, List.any_eq_true, List.contains_iff_mem]
  constructor
  · rintro ⟨m, hm, e⟩
    have e' : ((m : Int) == (n : Int)) = true := e
    have : (m : Int) = (n : Int) := by simpa using e'
    have : m = n := by omega
    rw [← this]; exact hm
  · intro h
    refine ⟨n, h, ?_⟩
    show ((n : Int) == (n : Int)) = true
    simp

/-! ### what the top has written -/
/-- a def of the top: where it stands, how its arguments bind -/
def DefX (K : PySem.W.Frag) (mg : Str → Option Value) (x : Str) (st : Stmt) (ps : List Str) : Prop := ∃ f fd, Fun K x x st f fd ∧ mg x = some (.ref f) ∧ Binds K fd ps []
/-- .. and what it promises -/
def Cal (P : Program) (w : World) (K : PySem.W.Frag) (mg : Str → Option Value) (base : Heap) (x : Str) (k : Nat) (ps : List Str) (sp : Sp) : Prop :=
  ∃ f fd, FnOk P w K mg base CX0 k f fd ps sp ∧ mg x = some (.ref f) ∧ PySem.W.keepIn K (.ref f) = true ∧ Binds K fd ps []
section
variable {X : Cx} {x : Str} {k : Nat} {ps : List Str} {sp : Sp} {p pos : Pos} {e : Expr} {es : List Expr} {t : TA}
theorem pe_cal (C : Cal X.prog X.w X.K X.mg X.base x k ps sp) (hr : Room k X.A) (hg : Gl X x) (ha : PA X (e :: es) t) (hdb : (x == ("__debug__" : Str)) = false := by decide)
    (he : starEach (e :: es) X.env = (false, eval e X.env) :: starEach es X.env := by rfl) (hpl : (backTo pos (starEach es X.env)).any (·.1) = false := by rfl) : PE X (.Call (.Name x p) (e :: es) [] pos) (tCall sp [] E0 t) := by
  obtain ⟨f, fd, G, g, kp, b⟩ := C
  exact pe_call G hr hg g kp b .nil pass0 ha hdb he hpl
end
theorem DefX.cal {P : Program} {w : World} {K : PySem.W.Frag} {mg : Str → Option Value} {base : Heap} {x : Str} {st : Stmt} {ps : List Str} {k : Nat} {sp : Sp} (D : DefX K mg x st ps)
    (h : ∀ f fd, Fun K x x st f fd → FnOk P w K mg base CX0 k f fd ps sp) : Cal P w K mg base x k ps sp := by
  obtain ⟨f, fd, F, g, b⟩ := D
  exact ⟨f, fd, h f fd F, g, F.kp, b⟩
/-- a class of the top with an __init__, and its attributes -/
structure ClsX (K : PySem.W.Frag) (mg : Str → Option Value) (x qual : Str) (st : Stmt) (ps : List Str) (C : Addr) : Prop where
  cl : Cls K C
  gC : mg x = some (.ref C)
  ini : ∃ f fd, Fun K "__init__" qual st f fd ∧ Mk K C f ∧ Binds K fd ps []
structure Bn (mg : Str → Option Value) : Prop where
  list : mg "list" = none
  range : mg "range" = none
  len : mg "len" = none
  all : mg "all" = none
  tuple : mg "tuple" = none
  sorted : mg "sorted" = none
  max : mg "max" = none
  min : mg "min" = none
  sum : mg "sum" = none
  enumerate : mg "enumerate" = none
  abs : mg "abs" = none
structure OrdX (K : PySem.W.Frag) (mg : Str → Option Value) (C : Addr) : Prop where
  c : ClsX K mg "Order" "Order.__init__" (inClass (topS 1) 0) ["self", "many"] C
  nM : NoAttr K C "many"
  nT : NoAttr K C "told"
structure AskX (K : PySem.W.Frag) (mg : Str → Option Value) (C : Addr) : Prop where
  c : ClsX K mg "Asking" "Asking.__init__" (inClass (topS 10) 0) ["self"] C
  nK : NoAttr K C "known"
end OW
namespace OW
open PySem PySem.Spec PyProof.Rows L2 OX
open Or01 (Order things below)
open Oo (Good Bel mem_things)
section
variable {P : Program} {w : World} {K : PySem.W.Frag} {mg : Str → Option Value} {base : Heap} {C : Addr}
/-! ### Order.__init__ -/
def spInit (C : Addr) : Sp := fun vs H Q _ => ∃ (p dx : Addr) (m : Nat), vs = [.ref p, .int (m : Nat)] ∧ H p = some (.ins C dx []) ∧
  ∀ (t : Addr), H t = none → Q .non (upd (upd (upd H p (.ins C dx [("many", .int (m : Nat))])) t (.lst [])) p (.ins C dx (ordF m t)))
theorem scInit : FnScope ["self", "many"] ["self", "many"] (defScope (inClass (topS 1) 0)) := ⟨rfl, rfl, rfl, by decide +kernel, rfl, by decide +kernel, by decide +kernel⟩
theorem ok_init {f : Addr} {fd : FuncData} (T : OrdX K mg C) (F : Fun K "__init__" "Order.__init__" (inClass (topS 1) 0) f fd) : FnOk P w K mg base CX0 1 f fd ["self", "many"] (spInit C) := by
  refine F.ok scInit (fun vs H Q E h => ?_) (fun cdv A outer s H vs Q E hr h => ?_)
  · obtain ⟨p, dx, m, rfl, _⟩ := h
    rfl
  · obtain ⟨p, dx, m, rfl, hp, k⟩ := h
    refine ⟨_, pss_cons (ps_fld (pv 0) (pv 1) rfl) (pss_one (ps_fld (pv 0) (pe_lst pa_nil) rfl)), ?_⟩
    refine ⟨_, rfl, _, rfl, p, C, dx, [], rfl, hp, T.c.cl, T.nM, (by show 0 < 1000; decide), ?_⟩
    refine ⟨Nat.zero_le _, fun t nt => ?_⟩
    have ht : t ≠ p := fun e => by rw [e, upd_same] at nt; cases nt
    have nt' : H t = none := by rw [upd_ne ht] at nt; exact nt
    refine ⟨_, rfl, p, C, dx, _, rfl, (by rw [upd_ne (Ne.symm ht), upd_same]), T.c.cl, T.nT, (by show 1 < 1000; decide), ?_⟩
    have e := k t nt'
    exact e
/-! ### new_order -/
abbrev sNew : Stmt := topS 23
theorem scNew : FnScope ["many"] ["many"] (defScope sNew) := ⟨rfl, rfl, rfl, by decide +kernel, rfl, by decide +kernel, by decide +kernel⟩
def spNew (C : Addr) : Sp := fun vs H Q _ => ∃ (m : Nat), vs = [.int (m : Nat)] ∧ ∀ (H' : Hp) (a t : Addr), Same H H' → H a = none → H t = none → OrdAt C H' a t ⟨m, []⟩ → Q (.ref a) H'
theorem c_new (T : OrdX K mg C) (D : DefX K mg "new_order" sNew ["many"]) : Cal P w K mg base "new_order" 3 ["many"] (spNew C) := by
  refine D.cal fun f fd F => ?_
  obtain ⟨fi, fdi, FI, M, bI⟩ := T.c.ini
  have GI : FnOk P w K mg base CX0 1 fi fdi ["self", "many"] (spInit C) := ok_init T FI
  refine F.ok scNew (fun vs H Q E h => ?_) (fun cdv A outer s H vs Q E hr h => ?_)
  · obtain ⟨m, rfl, _⟩ := h
    rfl
  · obtain ⟨m, rfl, k⟩ := h
    refine ⟨_, pss_one (ps_ret (pe_make M GI hr (by rfl) T.c.gC bI .nil pass0 (pa_cons (pv 0) pa_nil))), ?_⟩
    refine ⟨_, rfl, fun x dx nx nd ne => ⟨x, dx, m, rfl, upd_same, fun t nt => ⟨rfl, ?_⟩⟩⟩
    have htx : t ≠ x := fun e => by rw [e, upd_same] at nt; cases nt
    have nt1 : upd H dx (.own x) t = none := by rw [upd_ne htx] at nt; exact nt
    have htd : t ≠ dx := fun e => by rw [e, upd_same] at nt1; cases nt1
    have nt2 : H t = none := by rw [upd_ne htd] at nt1; exact nt1
    refine k _ x t (fun b o e => ?_) nx nt2 ⟨dx, upd_same, [], ?_, .nil⟩
    · have h1 : b ≠ x := ne_of_none e nx
      have h2 : b ≠ t := ne_of_none e nt2
      have h3 : b ≠ dx := ne_of_none e nd
      rw [upd_ne h1, upd_ne h2, upd_ne h1, upd_ne h1, upd_ne h3]
      exact e
    · rw [upd_ne htx, upd_same]
      rfl
/-! ### things_of -/
abbrev sThings : Stmt := topS 2
theorem scThings : FnScope ["order"] ["order"] (defScope sThings) := ⟨rfl, rfl, rfl, by decide +kernel, rfl, by decide +kernel, by decide +kernel⟩
def spThings (C : Addr) : Sp := fun vs H Q _ => ∃ (a t : Addr) (o : Order), vs = [.ref a] ∧ OrdAt C H a t o ∧ o.many ≤ 7 ∧ ∀ (H' : Hp) (p : Addr), Same H H' → H p = none → H' p = some (.lst (nV (things o))) → Q (.ref p) H'
theorem rgV_nat (a b : Nat) : rgV (a : Nat) (b : Nat) = nV (List.range' a (b - a)) := by
  unfold rgV nV
  rw [List.range'_eq_map_range, List.map_map, show ((b : Int) - (a : Int)).toNat = b - a by omega]
  apply List.map_congr_left
  intro i _
  show V.int ((a : Int) + (i : Nat)) = V.int ((a + i : Nat) : Int)
  congr 1
theorem things_range (o : Order) : things o = List.range' 1 o.many := by
  unfold things
  rw [List.range'_eq_map_range]
  apply List.map_congr_left
  intro i _
  omega
theorem c_things (T : OrdX K mg C) (B : Bn mg) (D : DefX K mg "things_of" sThings ["order"]) : Cal P w K mg base "things_of" 1 ["order"] (spThings C) := by
  refine D.cal fun f fd F => ?_
  refine F.ok scThings (fun vs H Q E h => ?_) (fun cdv A outer s H vs Q E hr h => ?_)
  · obtain ⟨a, t, o, rfl, _⟩ := h
    rfl
  · obtain ⟨a, t, o, rfl, ⟨dx, h1, h2⟩, h7, k⟩ := h
    refine ⟨_, pss_one (ps_ret (pe_listRg rfl (by rfl) B.list (prg_2 (by rfl) B.range pe_int (pe_op op_add (pe_fld (pv 0) rfl) pe_int)))), ?_⟩
    refine ⟨_, rfl, a, C, dx, _, _, rfl, h1, T.c.cl, T.nM, ordF_many _ _, _, _, rfl, rfl, _, _, rfl, rfl, .of_le (by omega) (by omega) (by omega) (by omega), fun p np => ?_⟩
    refine k _ p (same_upd np) np ?_
    rw [upd_same, things_range]
    have := rgV_nat 1 (o.many + 1)
    rw [Nat.add_sub_cancel] at this
    rw [← this]
    rfl
end
end OW
namespace OW
open PySem PySem.Spec PyProof.Rows L2 OX
open Or01 (Order things below)
open Oo (Good Bel mem_things)
/-! ### lower_ones: what holds while they are sought -/
structure LInv (o : Order) (th : Nat) (ls ws : List Nat) (u i : Nat) : Prop where
  bel : ∀ x ∈ ls, Bel o.told x th
  wt : ∀ x ∈ ws, x = th ∨ x ∈ ls
  up : u = th ∨ u ∈ ls
  nd : ls.Nodup
  sub : ∀ x ∈ ls, x ∈ things o
  clo : ∀ (j x y : Nat), o.told[j]? = some (x, y) → (y = th ∨ y ∈ ls) → y ∈ ws ∨ x ∈ ls ∨ (y = u ∧ i ≤ j)
theorem LInv.start (o : Order) (th : Nat) : LInv o th [] [th] th o.told.length :=
  ⟨fun _ h => (nomatch h), fun x h => .inl (List.mem_singleton.mp h), .inl rfl, List.nodup_nil, fun _ h => (nomatch h), fun j x y _ h => .inl (by
    rcases h with h | h
    · rw [h]; exact List.mem_singleton.mpr rfl
    · cases h)⟩
theorem LInv.pop {o : Order} {th u0 u i : Nat} {ls ws : List Nat} (h : LInv o th ls (ws ++ [u]) u0 i) (hi : o.told.length ≤ i) : LInv o th ls ws u 0 :=
  ⟨h.bel, fun x hx => h.wt x (List.mem_append_left _ hx), h.wt u (List.mem_append_right _ (List.mem_singleton.mpr rfl)), h.nd, h.sub, fun j x y e q => by
    rcases h.clo j x y e q with r | r | ⟨_, r⟩
    · rcases List.mem_append.mp r with r | r
      · exact .inl r
      · exact .inr (.inr ⟨List.mem_singleton.mp r, Nat.zero_le _⟩)
    · exact .inr (.inl r)
    · have := (List.getElem?_eq_some_iff.mp e).1
      omega⟩
theorem LInv.skip {o : Order} {th u i x y : Nat} {ls ws : List Nat} (h : LInv o th ls ws u i) (e : o.told[i]? = some (x, y)) (c : y ≠ u ∨ x ∈ ls) : LInv o th ls ws u (i + 1) :=
  ⟨h.bel, h.wt, h.up, h.nd, h.sub, fun j a b ej q => by
    rcases h.clo j a b ej q with r | r | ⟨r, s⟩
    · exact .inl r
    · exact .inr (.inl r)
    · by_cases hj : j = i
      · subst hj
        rw [e] at ej
        cases ej
        rcases c with c | c
        · exact absurd r c
        · exact .inr (.inl c)
      · exact .inr (.inr ⟨r, by omega⟩)⟩
theorem LInv.put {o : Order} (g : Good o) {th u i x : Nat} {ls ws : List Nat} (h : LInv o th ls ws u i) (e : o.told[i]? = some (x, u)) (c : x ∉ ls) : LInv o th (ls ++ [x]) (ws ++ [x]) u (i + 1) := by
  have mem : (x, u) ∈ o.told := List.mem_of_getElem? e
  have bx : Bel o.told x th := by
    rcases h.up with q | q
    · rw [← q]; exact .one mem
    · exact .more mem (h.bel u q)
  refine ⟨fun z hz => ?_, fun z hz => ?_, ?_, ?_, fun z hz => ?_, fun j a b ej q => ?_⟩
  · rcases List.mem_append.mp hz with hz | hz
    · exact h.bel z hz
    · rw [List.mem_singleton.mp hz]; exact bx
  · rcases List.mem_append.mp hz with hz | hz
    · rcases h.wt z hz with q | q
      · exact .inl q
      · exact .inr (List.mem_append_left _ q)
    · exact .inr (List.mem_append_right _ hz)
  · rcases h.up with q | q
    · exact .inl q
    · exact .inr (List.mem_append_left _ q)
  · rw [List.nodup_append]
    refine ⟨h.nd, by simp, fun a ha b hb e => ?_⟩
    rw [List.mem_singleton.mp hb] at e
    rw [e] at ha
    exact c ha
  · rcases List.mem_append.mp hz with hz | hz
    · exact h.sub z hz
    · rw [List.mem_singleton.mp hz]; exact g.fst bx
  · have old : (b = th ∨ b ∈ ls) → b ∈ ws ++ [x] ∨ a ∈ ls ++ [x] ∨ (b = u ∧ i + 1 ≤ j) := fun q => by
      rcases h.clo j a b ej q with r | r | ⟨r, s⟩
      · exact .inl (List.mem_append_left _ r)
      · exact .inr (.inl (List.mem_append_left _ r))
      · by_cases hj : j = i
        · subst hj
          rw [e] at ej
          cases ej
          exact .inr (.inl (List.mem_append_right _ (List.mem_singleton.mpr rfl)))
        · exact .inr (.inr ⟨r, by omega⟩)
    rcases q with q | q
    · exact old (.inl q)
    · rcases List.mem_append.mp q with q | q
      · exact old (.inr q)
      · exact .inl (List.mem_append_right _ q)
theorem LInv.done {o : Order} {th u i : Nat} {ls : List Nat} (h : LInv o th ls [] u i) (hi : o.told.length ≤ i) (x : Nat) : x ∈ ls ↔ Bel o.told x th := by
  have step : ∀ x y, (x, y) ∈ o.told → (y = th ∨ y ∈ ls) → x ∈ ls := fun x y m q => by
    obtain ⟨j, ej⟩ := List.mem_iff_getElem?.mp m
    rcases h.clo j x y ej q with r | r | ⟨_, r⟩
    · cases r
    · exact r
    · have := (List.getElem?_eq_some_iff.mp ej).1
      omega
  refine ⟨h.bel x, fun b => ?_⟩
  have : ∀ {a c}, Bel o.told a c → c = th → a ∈ ls := fun {a c} b => by
    induction b with
    | one m => intro e; exact step _ _ m (.inl e)
    | more m _ ih => intro e; exact step _ _ m (.inr (ih e))
  exact this b rfl
theorem LInv.len {o : Order} {th u i : Nat} {ls ws : List Nat} (h : LInv o th ls ws u i) : ls.length ≤ o.many := by
  have := List.Nodup.length_le_of_subset h.nd h.sub
  rw [Oo.things_len] at this
  exact this

section
variable {P : Program} {w : World} {K : PySem.W.Frag} {mg : Str → Option Value} {base : Heap} {C : Addr}
abbrev sLower : Stmt := topS 3
theorem scLower : FnScope ["order", "thing", "found", "waiting", "upper", "one", "other"] ["order", "thing"] (defScope sLower) := ⟨rfl, rfl, rfl, by decide +kernel, rfl, by decide +kernel, by decide +kernel⟩
def spLower (C : Addr) : Sp := fun vs H Q _ => ∃ (a t : Addr) (o : Order) (th : Nat), vs = [.ref a, .int (th : Nat)] ∧ OrdAt C H a t o ∧ Good o ∧
  ∀ (H' : Hp) (p : Addr) (ls : List Nat), Same H H' → H p = none → H' p = some (.lst (nV ls)) → (∀ x, x ∈ ls ↔ Bel o.told x th) → ls.length ≤ 7 → Q (.ref p) H'
theorem c_lower (T : OrdX K mg C) (B : Bn mg) (D : DefX K mg "lower_ones" sLower ["order", "thing"]) : Cal P w K mg base "lower_ones" 1 ["order", "thing"] (spLower C) := by
  refine D.cal fun f fd F => ?_
  refine F.ok scLower (fun vs H Q E h => ?_) (fun cdv A outer s H vs Q E hr h => ?_)
  · obtain ⟨a, t, o, th, rfl, _⟩ := h
    rfl
  · obtain ⟨a, t, o, th, rfl, ⟨dx, h1, qs, h2, h3⟩, g, k⟩ := h
    have nd := scLower.nd
    have h7 := g.most
    refine ⟨_, pss_cons (ps_set (i := 2) nd rfl (.inl rfl) (pe_lst pa_nil))
      (pss_cons (ps_set (i := 3) nd rfl (.inl rfl) (pe_lst (pa_cons (pv 1) pa_nil)))
      (pss_cons (ps_while PassesOwn.never (pt_cmpR op_gt (pe_callB call_len_seq (by rfl) B.len PySem.boot_len (pa_cons (pv 3) pa_nil)) pe_int (nomark _))
        (pss_cons (ps_set (i := 4) nd rfl (.inl rfl) (pe_bm0 PySem.F.plainAttrs_list PySem.F.slot_list_pop PySem.F.type_list_pop mt_pop (pv 3)))
        (pss_one (ps_for PassesOwn.never rfl (pi_list (pe_fld (pv 0) rfl)) (pg_tup rfl (pgs_cons (pg_name (i := 5) nd rfl (.inl rfl)) (pgs_cons (pg_name (i := 6) nd rfl (.inl rfl)) pgs_nil)))
          (pss_one (ps_if (PW.pt (pw_and (pt_cmpR op_eq (pv 6) (pv 4) (nomark _)) (pw_and1 (pt_cmpR op_notIn_seq (pv 5) (pv 2) (by rfl)))))
            (pss_cons (ps_expr (pe_bm PySem.F.plainAttrs_list PySem.F.slot_list_append PySem.F.type_list_append mt_append (pv 2) (pa_cons (pv 5) pa_nil)))
            (pss_one (ps_expr (pe_bm PySem.F.plainAttrs_list PySem.F.slot_list_append PySem.F.type_list_append mt_append (pv 3) (pa_cons (pv 5) pa_nil))))) pss_nil))))))
      (pss_one (ps_ret (pv 2))))), ?_⟩
    refine ⟨Nat.zero_le _, fun pf nf => ⟨_, rfl, (by show 1 ≤ sizeLine; decide), fun pw nw => ?_⟩⟩
    have hne : pw ≠ pf := fun e => by rw [e, upd_same] at nw; cases nw
    have nw0 : H pw = none := by rw [upd_ne hne] at nw; exact nw
    refine ⟨fun m σ H' => ∃ (ls ws : List Nat) (u : Nat) (y4 y5 y6 : Option V), σ = [some (.ref a), some (.int (th : Nat)), some (.ref pf), some (.ref pw), y4, y5, y6] ∧ Same H H' ∧ H' pf = some (.lst (nV ls)) ∧ H' pw = some (.lst (nV ws)) ∧
      LInv o th ls ws u o.told.length ∧ m = 2 * (o.many - ls.length) + ws.length ∧ m ≤ 15,
      ⟨_, [], [th], th, none, none, none, rfl, (same_upd nf).trans (same_upd nw), ?_, upd_same, LInv.start o th, rfl, by simp; omega⟩, ?_⟩
    · rw [upd_ne (Ne.symm hne), upd_same]
      rfl
    rintro m σ H' ⟨ls, ws, u0, y4, y5, y6, rfl, sm, ef, ew, I, rfl, hm⟩
    refine ⟨_, rfl, pw, _, rfl, .inl (SqL.of ew), _, _, rfl, rfl, _, rfl, ?_⟩
    rw [nV_len]
    cases hws : ws with
    | nil =>
      subst hws
      refine Toy.if_false_of (by simp) ?_
      exact ⟨_, rfl, k H' pf ls sm nf ef (I.done (Nat.le_refl _)) (Nat.le_trans I.len g.most)⟩
    | cons w0 wr =>
      rw [← hws]
      have hlen : 0 < ws.length := by rw [hws]; simp
      refine Toy.if_true_of (by simpa using hlen) ?_
      obtain ⟨wi, u, ewi⟩ : ∃ wi u, ws = wi ++ [u] := ⟨ws.dropLast, ws.getLast (by rw [hws]; simp), (List.dropLast_concat_getLast _).symm⟩
      clear hws
      subst ewi
      rw [List.length_append, List.length_singleton] at hm
      have I0 := I.pop (Nat.le_refl _)
      have eml : (nV (wi ++ [u]))[(nV (wi ++ [u])).length - 1]? = some (.int (u : Nat)) := by
        rw [nV_len, List.length_append, List.length_singleton, Nat.add_sub_cancel]
        unfold nV
        rw [List.getElem?_map, List.getElem?_append_right (Nat.le_refl _), Nat.sub_self]
        rfl
      have edl : (nV (wi ++ [u])).dropLast = nV wi := by
        unfold nV
        rw [List.map_append, List.map_singleton, List.dropLast_concat]
      refine ⟨fun σ' H'' => ∃ (ls' ws' : List Nat) (u : Nat) (y4 y5 y6 : Option V), σ' = [some (.ref a), some (.int (th : Nat)), some (.ref pf), some (.ref pw), y4, y5, y6] ∧ Same H H'' ∧ H'' pf = some (.lst (nV ls')) ∧ H'' pw = some (.lst (nV ws')) ∧
        LInv o th ls' ws' u o.told.length ∧ 2 * (o.many - ls'.length) + ws'.length < 2 * (o.many - ls.length) + (wi ++ [u]).length, fun σ' H'' q => ?_, ?_⟩
      · obtain ⟨ls', ws', u', z4, z5, z6, e1, e2, e3, e4, e5, e6⟩ := q
        rw [List.length_append, List.length_singleton] at e6
        refine ⟨_, ?_, ls', ws', u', z4, z5, z6, e1, e2, e3, e4, e5, rfl, by omega⟩
        rw [List.length_append, List.length_singleton]
        exact e6
      refine ⟨_, rfl, .inl ⟨rfl, _, SqL.of ew⟩, pw, _, _, rfl, rfl, ew, eml, ?_⟩
      rw [edl]
      have sm1 : Same H (upd H' pw (.lst (nV wi))) := fun b x e => by
        rw [upd_ne (ne_of_none e nw0)]
        exact sm b x e
      refine ⟨_, rfl, a, C, dx, _, _, rfl, sm1 _ _ h1, T.c.cl, T.nT, ordF_told _ _, t, rfl, ⟨_, SqL.of (sm1 _ _ h2)⟩, for_list (K := K) (a := t) (xs := qs.map V.ref) (fun i σ' H'' => ∃ (ls' ws' : List Nat) (y5 y6 : Option V), σ' = [some (.ref a), some (.int (th : Nat)), some (.ref pf), some (.ref pw), some (.int (u : Nat)), y5, y6] ∧ Same H H'' ∧ H'' pf = some (.lst (nV ls')) ∧ H'' pw = some (.lst (nV ws')) ∧
        LInv o th ls' ws' u i ∧ 2 * (o.many - ls'.length) + ws'.length ≤ 2 * (o.many - ls.length) + wi.length)
        ⟨ls, wi, _, _, rfl, sm1, ?_, upd_same, I0, Nat.le_refl _⟩ (fun i σ' H'' _ ⟨_, _, _, _, _, s5, _⟩ => SqL.of (s5 _ _ h2)) ?_ ?_⟩
      · rw [upd_ne (Ne.symm hne)]
        exact ef
      · rintro i y σ' H'' hi ⟨ls', ws', z5, z6, rfl, s5, ef5, ew5, I5, m5⟩
        obtain ⟨q, hq, rfl⟩ := ref_get hi
        obtain ⟨⟨x, v⟩, hz, hq2⟩ := OX.paired_get h3 hq
        refine ⟨q, _, rfl, SqT.of (s5 _ _ hq2), rfl, _, _, rfl, _, _, rfl, rfl, ?_⟩
        refine ⟨_, rfl, _, rfl, rfl, _, rfl, ?_⟩
        by_cases c : v = u
        · subst c
          refine Toy.if_true_of (by simp) ?_
          refine ⟨_, rfl, _, rfl, pf, _, rfl, .inl (SqL.of ef5), rfl, flat_nV _, _, rfl, ?_⟩
          have ei : inV (.int (x : Nat)) (nV ls') = ls'.contains x := inV_nV x ls'
          by_cases d : x ∈ ls'
          · refine Toy.if_false_of (by
              show (!inV (.int (x : Nat)) (nV ls')) = false
              rw [ei]; simpa using d) ?_
            exact ⟨ls', ws', _, _, rfl, s5, ef5, ew5, I5.skip hz (.inr d), m5⟩
          · refine Toy.if_true_of (by
              show (!inV (.int (x : Nat)) (nV ls')) = true
              rw [ei]; simpa using d) ?_
            have I6 := I5.put g hz d
            have hl6 := I6.len
            rw [List.length_append, List.length_singleton] at hl6
            refine ⟨_, rfl, .inl ⟨rfl, _, SqL.of ef5⟩, _, rfl, pf, _, _, rfl, rfl, ef5, small (by rw [nV_len]; omega), ?_⟩
            have ew6 : upd H'' pf (.lst (nV ls' ++ [.int (x : Nat)])) pw = some (.lst (nV ws')) := by rw [upd_ne hne]; exact ew5
            refine ⟨_, rfl, .inl ⟨rfl, _, SqL.of ew6⟩, _, rfl, pw, _, _, rfl, rfl, ew6, small (by rw [nV_len]; omega), ?_⟩
            refine ⟨ls' ++ [x], ws' ++ [x], _, _, rfl, fun b o' e => ?_, ?_, ?_, I6, ?_⟩
            · rw [upd_ne (ne_of_none e nw0), upd_ne (ne_of_none e nf)]
              exact s5 b o' e
            · rw [upd_ne (Ne.symm hne), upd_same, nV_snoc]
            · rw [upd_same, nV_snoc]
            · simp only [List.length_append, List.length_singleton]
              omega
        · refine Toy.if_false_of (by
            refine decide_eq_false ?_
            intro e
            have := V.int.inj e
            omega) ?_
          exact ⟨ls', ws', _, _, rfl, s5, ef5, ew5, I5.skip hz (.inl c), m5⟩
      · rintro σ' H'' ⟨ls', ws', z5, z6, rfl, s5, ef5, ew5, I5, m5⟩
        refine ⟨ls', ws', u, _, _, _, rfl, s5, ef5, ew5, ?_, ?_⟩
        · rw [List.length_map, paired_len h3] at I5
          exact I5
        · rw [List.length_append, List.length_singleton]
          omega
end
end OW
namespace OW
open PySem PySem.Spec PyProof.Rows L2 OX
open Or01 (Order things below place)
open Oo (Good Bel mem_things)

/-! ### a list of new objects -/
def ObjsAt {α : Type} (c : α → HO) (N H : Hp) (p : Addr) (qs : List Addr) (xs : List α) : Prop := H p = some (.lst (qs.map V.ref)) ∧ Paired (fun q x => q ≠ p ∧ N q = none ∧ H q = some (c x)) qs xs
theorem ObjsAt.nil {α : Type} {c : α → HO} {N H : Hp} {p : Addr} (h : H p = some (.lst [])) : ObjsAt c N H p [] ([] : List α) := ⟨h, .nil⟩
theorem ObjsAt.same {α : Type} {c : α → HO} {N H H' : Hp} {p : Addr} {qs : List Addr} {xs : List α} (h : ObjsAt c N H p qs xs) (s : Same H H') : ObjsAt c N H' p qs xs :=
  ⟨s _ _ h.1, paired_mono (fun _ _ e => ⟨e.1, e.2.1, s _ _ e.2.2⟩) h.2⟩
theorem paired_snoc {α β : Type} {F : α → β → Prop} {a : α} {b : β} (h : F a b) : ∀ {l : List α} {m : List β}, Paired F l m → Paired F (l ++ [a]) (m ++ [b])
  | _, _, .nil => .cons h .nil
  | _, _, .cons r t => .cons r (paired_snoc h t)
theorem ObjsAt.put {α : Type} {c : α → HO} {N H : Hp} {p q : Addr} {qs : List Addr} {xs : List α} {x : α} (h : ObjsAt c N H p qs xs) (n1 : q ≠ p) (n2 : N q = none) (e : H q = some (c x)) :
    ObjsAt c N (upd H p (.lst (qs.map V.ref ++ [.ref q]))) p (qs ++ [q]) (xs ++ [x]) := by
  refine ⟨?_, paired_snoc ⟨n1, n2, ?_⟩ (paired_mono (fun b y r => ⟨r.1, r.2.1, ?_⟩) h.2)⟩
  · rw [upd_same, List.map_append]; rfl
  · rw [upd_ne n1]; exact e
  · rw [upd_ne r.1]; exact r.2.2
theorem ObjsAt.len {α : Type} {c : α → HO} {N H : Hp} {p : Addr} {qs : List Addr} {xs : List α} (h : ObjsAt c N H p qs xs) : qs.length = xs.length := paired_len h.2
theorem _root_.L2.Same.put {N H : Hp} {p : Addr} {o : HO} (s : Same N H) (n : N p = none) : Same N (upd H p o) := fun b x e => by
  rw [upd_ne (ne_of_none e n)]
  exact s b x e
def rowO (r : List Nat) : HO := .lst (nV r)
def pairO (z : Nat × Nat) : HO := .tup (pV z)
/-- at p a list of rows, all new -/
def NewRows (N H : Hp) (p : Addr) (rs : List (List Nat)) : Prop := N p = none ∧ ∃ qs, ObjsAt rowO N H p qs rs
def NewPairs (N H : Hp) (p : Addr) (ps : List (Nat × Nat)) : Prop := N p = none ∧ ∃ qs, ObjsAt pairO N H p qs ps
theorem NewRows.same {N H H' : Hp} {p : Addr} {rs : List (List Nat)} (h : NewRows N H p rs) (s : Same H H') : NewRows N H' p rs := by
  obtain ⟨n, qs, h⟩ := h
  exact ⟨n, qs, h.same s⟩
theorem NewRows.older {N M H : Hp} {p : Addr} {rs : List (List Nat)} (h : NewRows N H p rs) (s : Same M N) : NewRows M H p rs := by
  obtain ⟨n, qs, h1, h2⟩ := h
  exact ⟨s.free n, qs, h1, paired_mono (fun _ _ e => ⟨e.1, s.free e.2.1, e.2.2⟩) h2⟩
theorem NewRows.rows {N H : Hp} {p : Addr} {rs : List (List Nat)} (h : NewRows N H p rs) : RowsAt H p rs := by
  obtain ⟨n, qs, h1, h2⟩ := h
  exact ⟨qs, h1, paired_mono (fun _ _ e => e.2.2) h2⟩
theorem NewPairs.same {N H H' : Hp} {p : Addr} {rs : List (Nat × Nat)} (h : NewPairs N H p rs) (s : Same H H') : NewPairs N H' p rs := by
  obtain ⟨n, qs, h⟩ := h
  exact ⟨n, qs, h.same s⟩
theorem NewPairs.pairs {N H : Hp} {p : Addr} {rs : List (Nat × Nat)} (h : NewPairs N H p rs) : PairsAt H p rs := by
  obtain ⟨n, qs, h1, h2⟩ := h
  exact ⟨qs, h1, paired_mono (fun _ _ e => e.2.2) h2⟩
theorem take_more {α : Type} {l : List α} {i : Nat} {x : α} (h : l[i]? = some x) : l.take (i + 1) = l.take i ++ [x] := by
  rw [List.take_add_one, h]
  rfl

section
variable {P : Program} {w : World} {K : PySem.W.Frag} {mg : Str → Option Value} {base : Heap} {C : Addr}
/-! ### lies_below -/
abbrev sBelow : Stmt := topS 4
theorem scBelow : FnScope ["order", "one", "other"] ["order", "one", "other"] (defScope sBelow) := ⟨rfl, rfl, rfl, by decide +kernel, rfl, by decide +kernel, by decide +kernel⟩
def spBelow (C : Addr) : Sp := fun vs H Q _ => ∃ (a t : Addr) (o : Order) (x y : Nat), vs = [.ref a, .int (x : Nat), .int (y : Nat)] ∧ OrdAt C H a t o ∧ Good o ∧ x ∈ things o ∧
  ∀ (H' : Hp), Same H H' → Q (.bl (below o x y)) H'
theorem c_below (L : Cal P w K mg base "lower_ones" 1 ["order", "thing"] (spLower C)) (D : DefX K mg "lies_below" sBelow ["order", "one", "other"]) : Cal P w K mg base "lies_below" 2 ["order", "one", "other"] (spBelow C) := by
  refine D.cal fun f fd F => ?_
  refine F.ok scBelow (fun vs H Q E h => ?_) (fun cdv A outer s H vs Q E hr h => ?_)
  · obtain ⟨a, t, o, x, y, rfl, _⟩ := h
    rfl
  · obtain ⟨a, t, o, x, y, rfl, hO, g, hx, k⟩ := h
    refine ⟨_, pss_one (ps_ret (pe_cmpR op_in_seq (pv 1) (pe_cal L hr (by rfl) (pa_cons (pv 0) (pa_cons (pv 2) pa_nil))) (by rfl))), ?_⟩
    refine ⟨_, rfl, _, rfl, _, rfl, a, t, o, y, rfl, hO, g, fun H' p ls sm np ep hm hl => ⟨p, _, rfl, .inl (SqL.of ep), rfl, flat_nV _, ?_⟩⟩
    have e : inV (.int (x : Nat)) (nV ls) = below o x y := by
      rw [inV_nV, Bool.eq_iff_iff, List.contains_iff_mem, hm, Oo.below_iff g hx]
    show Q (.bl (inV (.int (x : Nat)) (nV ls))) H'
    rw [e]
    exact k H' sm
/-! ### is_ahead -/
abbrev sAhead : Stmt := topS 6
theorem scAhead : FnScope ["row", "one", "other"] ["row", "one", "other"] (defScope sAhead) := ⟨rfl, rfl, rfl, by decide +kernel, rfl, by decide +kernel, by decide +kernel⟩
def spAhead : Sp := fun vs H Q _ => ∃ (a : Addr) (r : List Nat) (x y : Nat), vs = [.ref a, .int (x : Nat), .int (y : Nat)] ∧ H a = some (.lst (nV r)) ∧ x ∈ r ∧ y ∈ r ∧ Q (.bl (decide (place r x < place r y))) H
theorem index_nV {r : List Nat} {x : Nat} (hx : x ∈ r) : (nV r)[place r x]? = some (.int (x : Nat)) ∧ (∀ (m : Nat) (z' : V), m < place r x → (nV r)[m]? = some z' → eqV z' (.int (x : Nat)) = false) := by
  refine ⟨?_, fun m z' hm hz => ?_⟩
  · unfold nV
    rw [List.getElem?_map, Oo.place_get hx]
    rfl
  · obtain ⟨n, hn, rfl⟩ := nV_get hz
    have ne := Oo.place_first hm hn
    show ((n : Int) == (x : Int)) = false
    rw [beq_eq_false_iff_ne]
    omega
theorem eqV_self (x : Nat) : eqV (.int (x : Nat)) (.int (x : Nat)) = true := by
  show ((x : Int) == (x : Int)) = true
  simp
theorem c_ahead (D : DefX K mg "is_ahead" sAhead ["row", "one", "other"]) : Cal P w K mg base "is_ahead" 1 ["row", "one", "other"] spAhead := by
  refine D.cal fun f fd F => ?_
  refine F.ok scAhead (fun vs H Q E h => ?_) (fun cdv A outer s H vs Q E hr h => ?_)
  · obtain ⟨a, r, x, y, rfl, _⟩ := h
    rfl
  · obtain ⟨a, r, x, y, rfl, ha, hx, hy, k⟩ := h
    refine ⟨_, pss_one (ps_ret (pe_cmpR op_lt (pe_bm PySem.F.plainAttrs_list PySem.F.slot_list_index PySem.F.type_list_index mt_index (pv 0) (pa_cons (pv 1) pa_nil)) (pe_bm PySem.F.plainAttrs_list PySem.F.slot_list_index PySem.F.type_list_index mt_index (pv 0) (pa_cons (pv 2) pa_nil)) (nomark _))), ?_⟩
    obtain ⟨i1, i2⟩ := index_nV hx
    obtain ⟨j1, j2⟩ := index_nV hy
    refine ⟨_, rfl, .inl ⟨rfl, _, SqL.of ha⟩, _, rfl, a, _, _, _, _, rfl, rfl, SqL.of ha, rfl, flat_nV r, i1, eqV_self x, i2, ?_⟩
    refine ⟨_, rfl, .inl ⟨rfl, _, SqL.of ha⟩, _, rfl, a, _, _, _, _, rfl, rfl, SqL.of ha, rfl, flat_nV r, j1, eqV_self y, j2, ?_⟩
    refine ⟨_, _, rfl, rfl, ?_⟩
    have e : decide (((place r x : Nat) : Int) < ((place r y : Nat) : Int)) = decide (place r x < place r y) := by
      rw [Bool.eq_iff_iff, decide_eq_true_iff, decide_eq_true_iff]
      omega
    show Q (.bl (decide (((place r x : Nat) : Int) < ((place r y : Nat) : Int)))) H
    rw [e]
    exact k
/-! ### all_rows -/
abbrev sAll : Stmt := topS 5
theorem scAll : FnScope ["order", "lower", "thing", "rows", "place", "longer", "row", "one"] ["order"] (defScope sAll) := ⟨rfl, rfl, rfl, by decide +kernel, rfl, by decide +kernel, by decide +kernel⟩
def spAll (C : Addr) : Sp := fun vs H Q _ => ∃ (a t : Addr) (o : Order), vs = [.ref a] ∧ OrdAt C H a t o ∧ Good o ∧ ∀ (H' : Hp) (p : Addr), Same H H' → NewRows H H' p (Or01.rows o) → Q (.ref p) H'
/-- what lies below each thing -/
def LowAt (o : Order) (H : Hp) (d : Addr) (n : Nat) : Prop := ∃ kvs : List (Key × V), H d = some (.dK kvs) ∧ kvs.length ≤ n ∧
  ∀ th ∈ (things o).take n, ∃ (q : Addr) (ls : List Nat), valV kvs (Sum.inl (th : Int)) = some (.ref q) ∧ H q = some (.lst (nV ls)) ∧ (∀ x, x ∈ ls ↔ Bel o.told x th) ∧ ls.length ≤ 7
theorem okn_eq {o : Order} (g : Good o) {row : List Nat} {th : Nat} {ls : List Nat} (hl : ∀ x, x ∈ ls ↔ Bel o.told x th) : Oo.okn o row th = (!row.contains th && ls.all fun x => row.contains x) := by
  unfold Oo.okn
  congr 1
  rw [Bool.eq_iff_iff, List.all_eq_true, List.all_eq_true]
  constructor
  · intro h x hx
    have b := (hl x).mp hx
    have m := g.fst b
    have := h x m
    rw [(Oo.below_iff g m).mpr b] at this
    simpa using this
  · intro h x hx
    cases c : below o x th with
    | false => rfl
    | true =>
      have := h x ((hl x).mpr ((Oo.below_iff g hx).mp c))
      simpa using this
theorem flat_le {α β : Type} {f : α → List β} {m : Nat} : ∀ l : List α, (∀ x ∈ l, (f x).length ≤ m) → (l.flatMap f).length ≤ l.length * m
  | [], _ => by simp
  | a :: l, h => by
    rw [List.flatMap_cons, List.length_append, List.length_cons, Nat.add_mul]
    have := flat_le l fun x hx => h x (List.mem_cons_of_mem _ hx)
    have := h a List.mem_cons_self
    omega
theorem pre_row_len (o : Order) : ∀ (k : Nat) (r : List Nat), r ∈ Oo.pre o k → r.length = k
  | 0, r, h => by
    have e : r = [] := List.mem_singleton.mp h
    rw [e]
    rfl
  | k + 1, r, h => by
    obtain ⟨row, h1, h2⟩ := List.mem_flatMap.mp (show r ∈ (Oo.pre o k).flatMap fun row => ((things o).filter (Oo.okn o row)).map fun t => row ++ [t] from h)
    obtain ⟨t, _, rfl⟩ := List.mem_map.mp h2
    rw [List.length_append, List.length_singleton, pre_row_len o k row h1]
theorem part_len {o : Order} (h7 : o.many ≤ 7) {i j l : Nat} (hi : i < o.many) (row : List Nat) : ((((Oo.pre o i).take j).flatMap fun row => ((things o).filter (Oo.okn o row)).map fun t => row ++ [t]) ++ (((things o).take l).filter (Oo.okn o row)).map fun t => row ++ [t]).length ≤ 900000 := by
  have hpre := Oo.pre_len o h7 i
  have h6 : 7 ^ i ≤ 7 ^ 6 := Nat.pow_le_pow_right (by decide) (by omega)
  have e6 : 7 ^ 6 = 117649 := by decide
  have a1 := flat_le (f := fun row => ((things o).filter (Oo.okn o row)).map fun t => row ++ [t]) (m := 7) ((Oo.pre o i).take j) (fun x _ => by
    show (((things o).filter (Oo.okn o x)).map fun t => x ++ [t]).length ≤ 7
    rw [List.length_map]
    have := List.length_filter_le (Oo.okn o x) (things o)
    rw [Oo.things_len] at this
    omega)
  have a2 : (((things o).take l).filter (Oo.okn o row)).length ≤ 7 := by
    have h1 := List.length_filter_le (Oo.okn o row) ((things o).take l)
    have h2 : ((things o).take l).length ≤ (things o).length := by rw [List.length_take]; exact Nat.min_le_right _ _
    rw [Oo.things_len] at h2
    omega
  have a3 : ((Oo.pre o i).take j).length ≤ (Oo.pre o i).length := by rw [List.length_take]; exact Nat.min_le_right _ _
  rw [List.length_append, List.length_map]
  omega
theorem c_all (T : OrdX K mg C) (B : Bn mg) (Th : Cal P w K mg base "things_of" 1 ["order"] (spThings C)) (L : Cal P w K mg base "lower_ones" 1 ["order", "thing"] (spLower C)) (D : DefX K mg "all_rows" sAll ["order"]) : Cal P w K mg base "all_rows" 2 ["order"] (spAll C) := by
  refine D.cal fun f fd F => ?_
  refine F.ok scAll (fun vs H Q E h => ?_) (fun cdv A outer s H vs Q E hr h => ?_)
  · obtain ⟨a, t, o, rfl, _⟩ := h
    rfl
  · obtain ⟨a, t, o, rfl, hO, g, k⟩ := h
    have nd := scAll.nd
    have h7 := g.most
    have hu := hu_of hr
    refine ⟨_, pss_cons (ps_set (i := 1) nd rfl (.inl rfl) pe_dnewK)
      (pss_cons (ps_for PassesOwn.never rfl (pi_list (pe_cal Th hr (by rfl) (pa_cons (pv 0) pa_nil))) (pg_name (i := 2) nd rfl (.inl rfl))
        (pss_one (ps_dput hu (pv 1) (pv 2) (pe_cal L hr (by rfl) (pa_cons (pv 0) (pa_cons (pv 2) pa_nil))) rfl)))
      (pss_cons (ps_set (i := 3) nd rfl (.inl rfl) (pe_lst (pa_cons (pe_lst pa_nil) pa_nil)))
      (pss_cons (ps_for PassesOwn.never rfl (pi_range1 rfl B.range (pa_cons (pe_fld (pv 0) rfl) pa_nil)) (pg_name (i := 4) nd rfl (.inl rfl))
        (pss_cons (ps_set (i := 5) nd rfl (.inl rfl) (pe_lst pa_nil))
        (pss_cons (ps_for PassesOwn.never rfl (pi_list (pv 3)) (pg_name (i := 6) nd rfl (.inr rfl))
          (pss_one (ps_for PassesOwn.never rfl (pi_list (pe_cal Th hr (by rfl) (pa_cons (pv 0) pa_nil))) (pg_name (i := 2) nd rfl (.inl rfl))
            (pss_one (ps_if (PW.pt (pw_and (pt_cmpR op_notIn_seq (pv 2) (pv 6) (by rfl)) (pw_and1 (pt_val (pe_callB (cr_all rfl) (by rfl) B.all (by decide +kernel) (pa_cons
                (pe_lc (own := [("one", 7)]) (g := gName 7) (tt := tYes) (te := tOp (rIn K false) (tVar 7) (tVar 6)) rfl nd (pi_list (pe_dget hu (pv 1) (pv 2) (fun _ _ => rfl))) (blkOk_by (N := ["order", "lower", "thing", "rows", "place", "longer", "row", "one"]) (sc := defScope sAll) (by decide +kernel))
                  (fun _ _ _ _ _ => pg_name (i := 7) nd rfl (Or.inl rfl)) (fun _ _ _ _ _ => pts_nil) (fun _ _ _ _ _ => pe_cmpR op_in_seq (pv 7) (pv 6) (by rfl))) pa_nil))))))
              (pss_one (ps_expr (pe_bm PySem.F.plainAttrs_list PySem.F.slot_list_append PySem.F.type_list_append mt_append (pv 5) (pa_cons (pe_op op_cat (pv 6) (pe_lst (pa_cons (pv 2) pa_nil))) pa_nil)))) pss_nil)))))
        (pss_one (ps_set (i := 3) nd rfl (.inl rfl) (pv 5))))))
      (pss_one (ps_ret (pv 3)))))), ?_⟩
    intro d nd'
    have s0 : Same H (upd H d (.dK [])) := same_upd nd'
    -- the things
    refine ⟨_, rfl, a, t, o, rfl, hO.same s0, h7, fun H1 pt s1 npt ept => ?_⟩
    refine ⟨pt, rfl, ⟨_, SqL.of ept⟩, for_list (K := K) (a := pt) (xs := nV (things o)) (fun i σ H' => ∃ y2, σ = [some (.ref a), some (.ref d), y2, none, none, none, none, none] ∧ Same H H' ∧ H' pt = some (.lst (nV (things o))) ∧ LowAt o H' d i)
      ⟨_, rfl, s0.trans s1, ept, [], s1 _ _ upd_same, Nat.zero_le _, fun th h => (nomatch h)⟩ (fun i σ H' _ ⟨_, _, _, q, _⟩ => SqL.of q) ?_ ?_⟩
    · rintro i y σ H' hi ⟨y2, rfl, sm, ept', kvs, ek, hk, hv⟩
      obtain ⟨th, hth, rfl⟩ := nV_get hi
      refine ⟨_, rfl, _, rfl, a, t, o, th, rfl, hO.same sm, g, fun H2 q ls s2 nq eq hm hl => ?_⟩
      have ek2 := s2 _ _ ek
      refine ⟨_, rfl, _, rfl, d, _, rfl, DPut.k (k := Sum.inl (th : Int)) ek2 (by have := (List.getElem?_eq_some_iff.mp hth).1; rw [Oo.things_len] at this; exact small (by omega)), ?_⟩
      have nqd : q ≠ d := fun e => by rw [e] at nq; rw [nq] at ek; cases ek
      have ndt : d ≠ pt := fun e => by rw [e, ept'] at ek; cases ek
      refine ⟨_, rfl, (sm.trans s2).put nd', ?_, _, upd_same, ?_, ?_⟩
      · rw [upd_ne (Ne.symm ndt)]
        exact s2 _ _ ept'
      · have := length_putK kvs (Sum.inl (th : Int)) (.ref q)
        omega
      · intro u hu'
        rw [take_more hth] at hu'
        by_cases c : u = th
        · subst c
          refine ⟨q, ls, ?_, ?_, hm, hl⟩
          · rw [valV_put, if_pos rfl]
          · rw [upd_ne nqd]; exact eq
        · have hu2 : u ∈ (things o).take i := by
            rcases List.mem_append.mp hu' with h | h
            · exact h
            · exact absurd (List.mem_singleton.mp h) c
          obtain ⟨q', ls', v1, v2, v3, v4⟩ := hv u hu2
          refine ⟨q', ls', ?_, ?_, v3, v4⟩
          · rw [valV_put, if_neg (fun e => c (by have := Sum.inl.inj e; omega))]
            exact v1
          · rw [upd_ne (fun e => by rw [e, ek] at v2; cases v2)]
            exact s2 _ _ v2
    rintro σ H2 ⟨y2, rfl, s2, ept2, hL⟩
    rw [nV_len, Oo.things_len] at hL
    -- rows = [[]]
    refine ⟨Nat.zero_le _, fun r0 nr0 => ⟨(by show 1 ≤ sizeLine; decide), fun pr npr => ?_⟩⟩
    have hrp : pr ≠ r0 := fun e => by rw [e, upd_same] at npr; cases npr
    have npr2 : H2 pr = none := by rw [upd_ne hrp] at npr; exact npr
    have s3 : Same H2 (upd (upd H2 r0 (.lst [])) pr (.lst [.ref r0])) := (same_upd nr0).trans (same_upd npr)
    have keepL : ∀ {H3 H4 : Hp} {n : Nat}, Same H3 H4 → LowAt o H3 d n → LowAt o H4 d n := fun {H3 H4 n} sm ⟨kvs, e1, e2, e3⟩ => ⟨kvs, sm _ _ e1, e2, fun th h => by
      obtain ⟨q, ls, v1, v2, v3⟩ := e3 th h
      exact ⟨q, ls, v1, sm _ _ v2, v3⟩⟩
    obtain ⟨dx, h1, h2⟩ := hO
    refine ⟨_, rfl, a, C, dx, _, _, rfl, (s2.trans s3) _ _ h1, T.c.cl, T.nM, ordF_many _ _, _, rfl, by omega, by omega, for_range (lo := 0) (n := (o.many : Int).toNat) (fun i σ H' => ∃ (y2 y4 y5 y6 : Option V) (p : Addr), σ = [some (.ref a), some (.ref d), y2, some (.ref p), y4, y5, y6, none] ∧ Same H H' ∧ LowAt o H' d o.many ∧ NewRows H H' p (Oo.pre o i))
      ⟨_, _, _, _, pr, rfl, s2.trans s3, keepL s3 hL, s2.free npr2, [r0], ?_, ?_⟩ ?_ ?_⟩
    · rw [upd_same]
      rfl
    · refine .cons ⟨Ne.symm hrp, s2.free nr0, ?_⟩ .nil
      rw [upd_ne (Ne.symm hrp), upd_same]
      rfl
    · rintro i σ H3 hi ⟨z2, z4, z5, z6, p, rfl, s4, hL3, hR⟩
      -- longer = []
      refine ⟨Nat.zero_le _, fun pl npl => ?_⟩
      have s5 : Same H3 (upd H3 pl (.lst [])) := same_upd npl
      obtain ⟨np, qs, hq1, hq2⟩ := id hR
      have hlen := paired_len hq2
      have hpre := Oo.pre_len o h7 (i + 1)
      have him : i < o.many := by omega
      have h77 : 7 ^ (i + 1) ≤ 7 ^ 7 := Nat.pow_le_pow_right (by decide) (by omega)
      have h777 : 7 ^ 7 = 823543 := by decide
      refine ⟨_, rfl, p, rfl, ⟨_, SqL.of (s5 _ _ hq1)⟩, for_list (K := K) (a := p) (xs := qs.map V.ref) (fun j σ H' => ∃ y2 y6 qs', σ = [some (.ref a), some (.ref d), y2, some (.ref p), some (.int (0 + (i : Nat))), some (.ref pl), y6, none] ∧ Same H3 H' ∧
          ObjsAt rowO H H' pl qs' (((Oo.pre o i).take j).flatMap fun row => ((things o).filter (Oo.okn o row)).map fun t => row ++ [t]))
        ⟨_, _, [], rfl, s5, .nil upd_same⟩ (fun j σ H' _ ⟨_, _, _, _, q, _⟩ => SqL.of (q _ _ hq1)) ?_ ?_⟩
      · rintro j y σ H4 hj ⟨w2, w6, qs4, rfl, s6, hP⟩
        obtain ⟨qr, hqr, rfl⟩ := ref_get hj
        obtain ⟨row, hrow, nqp, nq, eqr⟩ := OX.paired_get hq2 hqr
        have s7 : Same H H4 := s4.trans s6
        refine ⟨_, rfl, a, t, o, rfl, ⟨dx, s7 _ _ h1, h2.same s7⟩, h7, fun H5 pt5 s8 npt5 ept5 => ?_⟩
        have hP5 := hP.same s8
        have ePl := hP5.1
        refine ⟨pt5, rfl, ⟨_, SqL.of ept5⟩, for_list (K := K) (a := pt5) (xs := nV (things o)) (fun l σ H' => ∃ y2 qs', σ = [some (.ref a), some (.ref d), y2, some (.ref p), some (.int (0 + (i : Nat))), some (.ref pl), some (.ref qr), none] ∧ Same H3 H' ∧ H' pt5 = some (.lst (nV (things o))) ∧
            ObjsAt rowO H H' pl qs' ((((Oo.pre o i).take j).flatMap fun row => ((things o).filter (Oo.okn o row)).map fun t => row ++ [t]) ++ (((things o).take l).filter (Oo.okn o row)).map fun t => row ++ [t]))
          ⟨_, qs4, rfl, s6.trans s8, ept5, ?_⟩ (fun l σ H' _ ⟨_, _, _, _, q, _⟩ => SqL.of q) ?_ ?_⟩
        · rw [List.take_zero, List.filter_nil, List.map_nil, List.append_nil]
          exact hP5
        · rintro l y σ H6 hl' ⟨x2, qs6, rfl, s9, ept6, hP6⟩
          obtain ⟨th, hth, rfl⟩ := nV_get hl'
          have er6 : H6 qr = some (.lst (nV row)) := s9 _ _ eqr
          obtain ⟨kvs, ek, hk, hv⟩ := keepL s9 hL3
          obtain ⟨qlo, ls, v1, v2, v3, v4⟩ := hv th (by rw [List.take_of_length_le (by rw [Oo.things_len]; exact Nat.le_refl _)]; exact List.mem_of_getElem? hth)
          have eok := okn_eq (o := o) g (row := row) v3
          have ein : inV (.int (th : Nat)) (nV row) = row.contains th := inV_nV th row
          have skip : Oo.okn o row th = false → ∀ H7, Same H6 H7 → ∃ y2 qs', ([some (.ref a), some (.ref d), some (.int (th : Nat)), some (.ref p), some (.int (0 + (i : Nat))), some (.ref pl), some (.ref qr), none] : List (Option V)) = [some (.ref a), some (.ref d), y2, some (.ref p), some (.int (0 + (i : Nat))), some (.ref pl), some (.ref qr), none] ∧ Same H3 H7 ∧ H7 pt5 = some (.lst (nV (things o))) ∧
              ObjsAt rowO H H7 pl qs' ((((Oo.pre o i).take j).flatMap fun row => ((things o).filter (Oo.okn o row)).map fun t => row ++ [t]) ++ (((things o).take (l + 1)).filter (Oo.okn o row)).map fun t => row ++ [t]) := fun c H7 s10 => by
            refine ⟨_, qs6, rfl, s9.trans s10, s10 _ _ ept6, ?_⟩
            rw [take_more hth, List.filter_append, List.filter_cons, if_neg (by rw [c]; exact Bool.false_ne_true), List.filter_nil, List.append_nil]
            exact hP6.same s10
          refine ⟨_, rfl, _, rfl, qr, _, rfl, .inl (SqL.of er6), rfl, flat_nV _, _, rfl, ?_⟩
          by_cases c : row.contains th = true
          · refine Toy.if_false_of (by show (!inV (.int (th : Nat)) (nV row)) = false; rw [ein, c]; rfl) ?_
            exact skip (by rw [eok, c]; rfl) H6 (Same.refl _)
          · have c' : row.contains th = false := by simpa using c
            refine Toy.if_true_of (by show (!inV (.int (th : Nat)) (nV row)) = true; rw [ein, c']; rfl) ?_
            -- all([one in row for one in lower[thing]])
            refine ⟨_, rfl, _, rfl, d, _, rfl, ?_, qlo, rfl, ⟨_, SqL.of v2⟩, fun Dl nDl => lc_list (K := K) (a := qlo) (xs := nV ls) (fun m H' => Same H6 H' ∧ H' Dl = some (.lst ((ls.take m).map fun x => V.bl (row.contains x))))
              ⟨same_upd nDl, upd_same⟩ (fun m H' _ ⟨q, _⟩ => SqL.of (q _ _ v2)) ?_ ?_⟩
            · have := DGet.k (k := Sum.inl (th : Int)) ek
              rw [v1] at this
              exact this
            · rintro m y H7 hm ⟨s10, eD⟩
              obtain ⟨x, hx, rfl⟩ := nV_get hm
              refine ⟨rfl, ?_⟩
              refine ⟨_, rfl, _, rfl, qr, _, rfl, .inl (SqL.of (s10 _ _ er6)), rfl, flat_nV _, _, eD, small (by rw [List.length_map, List.length_take]; omega), s10.put nDl, ?_⟩
              rw [upd_same, take_more hx, List.map_append]
              show some (HO.lst (_ ++ [V.bl (inV (.int (x : Nat)) (nV row))])) = _
              rw [inV_nV]
              rfl
            · rintro H7 ⟨s10, eD⟩
              rw [nV_len, List.take_length] at eD
              refine ⟨Dl, ls.map fun x => row.contains x, rfl, SqL.of (by rw [List.map_map]; exact eD), _, rfl, ?_⟩
              have eall : ((ls.map fun x => row.contains x).all id) = ls.all fun x => row.contains x := by
                rw [List.all_map]; rfl
              rw [eall]
              by_cases c2 : (ls.all fun x => row.contains x) = true
              · refine Toy.if_true_of c2 ?_
                have ok1 : Oo.okn o row th = true := by rw [eok, c', c2]; rfl
                have hP7 := hP6.same s10
                -- longer.append(row + [thing])
                refine ⟨_, rfl, .inl ⟨rfl, _, SqL.of hP7.1⟩, _, rfl, (fun z => z) ?_⟩
                refine ⟨_, rfl, (by show 1 ≤ sizeLine; decide), fun p1 np1 => ?_⟩
                have er7 := s10 _ _ er6
                have hrl : row.length ≤ 7 := by
                  have := pre_row_len o i row (List.mem_of_getElem? hrow)
                  omega
                refine ⟨qr, p1, _, _, rfl, rfl, (same_upd np1) _ _ er7, upd_same, by rw [nV_len, sizeLine_eq]; simp; omega, fun p2 np2 => ?_⟩
                have s11 : Same H7 (upd (upd H7 p1 (.lst [.int (th : Nat)])) p2 (.lst (nV row ++ [.int (th : Nat)]))) := (same_upd np1).trans (same_upd np2)
                have hP8 := hP7.same s11
                have np7 : H7 p2 = none := (same_upd np1).free np2
                have np3 : H3 p2 = none := (s9.trans s10).free np7
                refine ⟨pl, _, _, rfl, rfl, hP8.1, ?_, _, qs6 ++ [p2], rfl, ?_, ?_, ?_⟩
                · rw [List.length_map, hP8.len]
                  exact small (Nat.le_trans (part_len h7 him row) (by decide))
                · exact ((s9.trans s10).trans s11).put npl
                · rw [upd_ne (fun e => by rw [e] at npt5; rw [hP.1] at npt5; cases npt5)]
                  exact (s10.trans s11) _ _ ept6
                · rw [take_more hth, List.filter_append, List.filter_cons, if_pos ok1, List.filter_nil, List.map_append, ← List.append_assoc]
                  refine hP8.put (fun e => ?_) (s4.free np3) ?_
                  · rw [e] at np7
                    rw [hP7.1] at np7
                    cases np7
                  · rw [upd_same, ← nV_snoc]
                    rfl
              · have c2' : (ls.all fun x => row.contains x) = false := by simpa using c2
                refine Toy.if_false_of c2' ?_
                exact skip (by rw [eok, c', c2']; rfl) H7 s10
        · rintro σ H6 ⟨x2, qs6, rfl, s9, ept6, hP6⟩
          refine ⟨_, _, qs6, rfl, s9, ?_⟩
          rw [nV_len, List.take_length] at hP6
          rw [take_more hrow, List.flatMap_append, List.flatMap_cons, List.flatMap_nil, List.append_nil]
          exact hP6
      · rintro σ H4 ⟨w2, w6, qs4, rfl, s6, hP⟩
        refine ⟨_, rfl, _, _, _, _, pl, rfl, s4.trans s6, keepL s6 hL3, s4.free npl, qs4, ?_⟩
        rw [List.length_map, hlen, List.take_length] at hP
        exact hP
    · rintro σ H3 ⟨z2, z4, z5, z6, p, rfl, s4, hL3, hR⟩
      refine ⟨_, rfl, k H3 p s4 ?_⟩
      rw [show (o.many : Int).toNat = o.many from by omega, Oo.pre_rows] at hR
      exact hR
end
end OW
namespace OW
open PySem PySem.Spec PyProof.Rows L2 OX
open Or01 (Order things below place)
open Oo (Good Bel mem_things)

theorem NewPairs.older {N M H : Hp} {p : Addr} {rs : List (Nat × Nat)} (h : NewPairs N H p rs) (s : Same M N) : NewPairs M H p rs := by
  obtain ⟨n, qs, h1, h2⟩ := h
  exact ⟨s.free n, qs, h1, paired_mono (fun _ _ e => ⟨e.1, s.free e.2.1, e.2.2⟩) h2⟩
def openP (o : Order) (x y : Nat) : Bool := !below o x y && !below o y x
theorem open_inner (o : Order) {x : Nat} (hx : x ∈ things o) : ((things o).filter fun y => decide (x < y) && (!below o x y && !below o y x)) = (List.range' (x + 1) (o.many - x)).filter (openP o x) := by
  have hm := mem_things.mp hx
  have e : things o = List.range' 1 x ++ List.range' (x + 1) (o.many - x) := by
    rw [things_range]
    have : o.many = x + (o.many - x) := by omega
    rw [this, ← List.range'_append_1, show x + (o.many - x) - x = o.many - x by omega, Nat.add_comm 1 x]
  rw [e, List.filter_append]
  have e1 : ((List.range' 1 x).filter fun y => decide (x < y) && (!below o x y && !below o y x)) = [] := by
    rw [List.filter_eq_nil_iff]
    intro y hy
    rw [List.mem_range'_1] at hy
    have : decide (x < y) = false := decide_eq_false (by omega)
    rw [this]
    simp
  rw [e1, List.nil_append]
  apply List.filter_congr
  intro y hy
  rw [List.mem_range'_1] at hy
  have : decide (x < y) = true := decide_eq_true (by omega)
  rw [this]
  rfl
theorem open_eq (o : Order) : Or01.open_ o = (things o).flatMap fun x => ((List.range' (x + 1) (o.many - x)).filter (openP o x)).map fun y => (x, y) := by
  unfold Or01.open_
  rw [List.flatMap_eq_foldl, List.flatMap_eq_foldl]
  have : ∀ (l : List Nat) (acc : List (Nat × Nat)), (∀ x ∈ l, x ∈ things o) → l.foldl (fun acc x => acc ++ ((things o).filter fun y => decide (x < y) && (!below o x y && !below o y x)).map fun y => (x, y)) acc = l.foldl (fun acc x => acc ++ ((List.range' (x + 1) (o.many - x)).filter (openP o x)).map fun y => (x, y)) acc := by
    intro l
    induction l with
    | nil => intro _ _; rfl
    | cons a l ih =>
      intro acc h
      rw [List.foldl_cons, List.foldl_cons, open_inner o (h a List.mem_cons_self)]
      exact ih _ fun x hx => h x (List.mem_cons_of_mem _ hx)
  exact this _ _ fun _ h => h
theorem filt_take_le {α : Type} (l : List α) (p : α → Bool) (n : Nat) : ((l.take n).filter p).length ≤ l.length :=
  Nat.le_trans (List.length_filter_le _ _) (by rw [List.length_take]; exact Nat.min_le_right _ _)
theorem part2_len {l : List Nat} {F : Nat → List (Nat × Nat)} {G : List (Nat × Nat)} (hl : l.length ≤ 7) (hF : ∀ x, (F x).length ≤ 7) (hG : G.length ≤ 7) (j : Nat) : ((l.take j).flatMap F ++ G).length ≤ 100 := by
  have a1 := flat_le (f := F) (m := 7) (l.take j) (fun x _ => hF x)
  have a3 : (l.take j).length ≤ l.length := by rw [List.length_take]; exact Nat.min_le_right _ _
  rw [List.length_append]
  omega

section
variable {P : Program} {w : World} {K : PySem.W.Frag} {mg : Str → Option Value} {base : Heap} {C : Addr}
/-! ### open_pairs -/
abbrev sOpen : Stmt := topS 7
theorem scOpen : FnScope ["order", "found", "one", "other"] ["order"] (defScope sOpen) := ⟨rfl, rfl, rfl, by decide +kernel, rfl, by decide +kernel, by decide +kernel⟩
def spOpen (C : Addr) : Sp := fun vs H Q _ => ∃ (a t : Addr) (o : Order), vs = [.ref a] ∧ OrdAt C H a t o ∧ Good o ∧ ∀ (H' : Hp) (p : Addr), Same H H' → NewPairs H H' p (Or01.open_ o) → Q (.ref p) H'
theorem c_open (T : OrdX K mg C) (B : Bn mg) (Th : Cal P w K mg base "things_of" 1 ["order"] (spThings C)) (Bl : Cal P w K mg base "lies_below" 2 ["order", "one", "other"] (spBelow C)) (D : DefX K mg "open_pairs" sOpen ["order"]) : Cal P w K mg base "open_pairs" 3 ["order"] (spOpen C) := by
  refine D.cal fun f fd F => ?_
  refine F.ok scOpen (fun vs H Q E h => ?_) (fun cdv A outer s H vs Q E hr h => ?_)
  · obtain ⟨a, t, o, rfl, _⟩ := h
    rfl
  · obtain ⟨a, t, o, rfl, hO, g, k⟩ := h
    have nd := scOpen.nd
    have h7 := g.most
    have hr1 := hr.mono (j := 1) (by decide)
    have hr2 := hr.mono (j := 2) (by decide)
    refine ⟨_, pss_cons (ps_set (i := 1) nd rfl (.inl rfl) (pe_lst pa_nil))
      (pss_cons (ps_for PassesOwn.never rfl (pi_list (pe_cal Th hr1 (by rfl) (pa_cons (pv 0) pa_nil))) (pg_name (i := 2) nd rfl (.inl rfl))
        (pss_one (ps_for PassesOwn.never rfl (pi_range2 rfl B.range (pa_cons (pe_op op_add (pv 2) pe_int) (pa_cons (pe_op op_add (pe_fld (pv 0) rfl) pe_int) pa_nil))) (pg_name (i := 3) nd rfl (.inl rfl))
          (pss_one (ps_if (PW.pt (pw_and (pt_not (pt_val (pe_cal Bl hr2 (by rfl) (pa_cons (pv 0) (pa_cons (pv 2) (pa_cons (pv 3) pa_nil)))))) (pw_and1 (pt_not (pt_val (pe_cal Bl hr2 (by rfl) (pa_cons (pv 0) (pa_cons (pv 3) (pa_cons (pv 2) pa_nil)))))))))
            (pss_one (ps_expr (pe_bm PySem.F.plainAttrs_list PySem.F.slot_list_append PySem.F.type_list_append mt_append (pv 1) (pa_cons (pe_tup (pa_cons (pv 2) (pa_cons (pv 3) pa_nil))) pa_nil)))) pss_nil)))))
      (pss_one (ps_ret (pv 1)))), ?_⟩
    refine ⟨Nat.zero_le _, fun pf nf => ?_⟩
    have s0 : Same H (upd H pf (.lst [])) := same_upd nf
    refine ⟨_, rfl, a, t, o, rfl, hO.same s0, h7, fun H1 pt s1 npt ept => ?_⟩
    obtain ⟨dx, h1, h2⟩ := id hO
    refine ⟨pt, rfl, ⟨_, SqL.of ept⟩, for_list (K := K) (a := pt) (xs := nV (things o)) (fun i σ H' => ∃ (y2 y3 : Option V) (qs : List Addr), σ = [some (.ref a), some (.ref pf), y2, y3] ∧ Same H H' ∧ H' pt = some (.lst (nV (things o))) ∧
        ObjsAt pairO H H' pf qs (((things o).take i).flatMap fun x => ((List.range' (x + 1) (o.many - x)).filter (openP o x)).map fun y => (x, y)))
      ⟨none, none, [], rfl, s0.trans s1, ept, (ObjsAt.nil upd_same).same s1⟩ (fun i σ H' _ ⟨_, _, _, _, _, q, _⟩ => SqL.of q) ?_ ?_⟩
    · rintro i y σ H2 hi ⟨y2, y3, qs, rfl, s2, ept2, hP⟩
      obtain ⟨x, hx, rfl⟩ := nV_get hi
      have hxt := List.mem_of_getElem? hx
      have hxm := mem_things.mp hxt
      have npf : pt ≠ pf := fun e => by rw [e] at npt; rw [upd_same] at npt; cases npt
      refine ⟨_, rfl, _, _, rfl, rfl, _, rfl, a, C, dx, _, _, rfl, s2 _ _ h1, T.c.cl, T.nM, ordF_many _ _, _, _, rfl, rfl, (x : Int) + 1, (o.many : Int) + 1, rfl, ⟨by omega, by omega, by omega, by omega⟩, for_range (lo := (x : Int) + 1) (n := ((o.many : Int) + 1 - ((x : Int) + 1)).toNat) (fun j σ H' => ∃ (y3 : Option V) (qs : List Addr), σ = [some (.ref a), some (.ref pf), some (.int (x : Nat)), y3] ∧ Same H H' ∧ H' pt = some (.lst (nV (things o))) ∧
          ObjsAt pairO H H' pf qs ((((things o).take i).flatMap fun x => ((List.range' (x + 1) (o.many - x)).filter (openP o x)).map fun y => (x, y)) ++ (((List.range' (x + 1) (o.many - x)).take j).filter (openP o x)).map fun y => (x, y)))
        ⟨y3, qs, rfl, s2, ept2, by rw [List.take_zero, List.filter_nil, List.map_nil, List.append_nil]; exact hP⟩ ?_ ?_⟩
      · rintro j σ H3 hj ⟨z3, qs3, rfl, s3, ept3, hP3⟩
        have hjm : j < o.many - x := by omega
        have hyt : x + 1 + j ∈ things o := mem_things.mpr (by omega)
        have hg : (List.range' (x + 1) (o.many - x))[j]? = some (x + 1 + j) := by
          rw [List.getElem?_range' hjm]
          simp
        have ev : V.int ((x : Int) + 1 + (j : Nat)) = V.int ((x + 1 + j : Nat) : Int) := by congr 1
        have skip : ∀ H7, Same H3 H7 → openP o x (x + 1 + j) = false → ∃ (y3 : Option V) (qs : List Addr), ([some (.ref a), some (.ref pf), some (.int (x : Nat)), some (V.int ((x + 1 + j : Nat) : Int))] : List (Option V)) = [some (.ref a), some (.ref pf), some (.int (x : Nat)), y3] ∧ Same H H7 ∧ H7 pt = some (.lst (nV (things o))) ∧
            ObjsAt pairO H H7 pf qs ((((things o).take i).flatMap fun x => ((List.range' (x + 1) (o.many - x)).filter (openP o x)).map fun y => (x, y)) ++ (((List.range' (x + 1) (o.many - x)).take (j + 1)).filter (openP o x)).map fun y => (x, y)) := fun H7 s7 c => by
          refine ⟨_, qs3, rfl, s3.trans s7, s7 _ _ ept3, ?_⟩
          rw [take_more hg, List.filter_append, List.filter_cons, if_neg (by rw [c]; exact Bool.false_ne_true), List.filter_nil, List.append_nil]
          exact hP3.same s7
        show tIfS _ _ _ _ [some (.ref a), some (.ref pf), some (.int (x : Nat)), some (V.int ((x : Int) + 1 + (j : Nat)))] H3
        rw [ev]
        refine ⟨_, rfl, _, rfl, _, rfl, a, t, o, x, x + 1 + j, rfl, hO.same s3, g, hxt, fun H4 s4 => ⟨_, rfl, ?_⟩⟩
        by_cases c : below o x (x + 1 + j) = true
        · refine Toy.if_false_of (by rw [c]; rfl) ?_
          exact skip H4 s4 (by unfold openP; rw [c]; rfl)
        · have c' : below o x (x + 1 + j) = false := by simpa using c
          refine Toy.if_true_of (by rw [c']; rfl) ?_
          refine ⟨_, rfl, _, rfl, _, rfl, a, t, o, x + 1 + j, x, rfl, hO.same (s3.trans s4), g, hyt, fun H5 s5 => ⟨_, rfl, ?_⟩⟩
          by_cases d : below o (x + 1 + j) x = true
          · refine Toy.if_false_of (by rw [d]; rfl) ?_
            exact skip H5 (s4.trans s5) (by unfold openP; rw [d, Bool.and_comm]; rfl)
          · have d' : below o (x + 1 + j) x = false := by simpa using d
            refine Toy.if_true_of (by rw [d']; rfl) ?_
            have hop : openP o x (x + 1 + j) = true := by unfold openP; rw [c', d']; rfl
            have hP5 := (hP3.same s4).same s5
            refine ⟨_, rfl, .inl ⟨rfl, _, SqL.of hP5.1⟩, _, rfl, _, rfl, (by show 2 ≤ sizeLine; decide), fun q nq => ?_⟩
            have s6 : Same H5 (upd H5 q (.tup (pV (x, x + 1 + j)))) := same_upd nq
            have hP6 := hP5.same s6
            refine ⟨pf, _, _, rfl, rfl, hP6.1, ?_, _, qs3 ++ [q], rfl, (((s3.trans s4).trans s5).trans s6).put nf, ?_, ?_⟩
            · rw [List.length_map, hP6.len]
              refine small (Nat.le_trans (part2_len (by rw [Oo.things_len]; exact h7) (fun x => ?_) ?_ i) (by decide))
              · rw [List.length_map]
                have := List.length_filter_le (openP o x) (List.range' (x + 1) (o.many - x))
                rw [List.length_range'] at this
                omega
              · rw [List.length_map]
                have := filt_take_le (List.range' (x + 1) (o.many - x)) (openP o x) j
                rw [List.length_range'] at this
                omega
            · rw [upd_ne npf]
              exact ((s4.trans s5).trans s6) _ _ ept3
            · rw [take_more hg, List.filter_append, List.filter_cons, if_pos hop, List.filter_nil, List.map_append, ← List.append_assoc]
              refine hP6.put (fun e => ?_) (((s3.trans s4).trans s5).free nq) upd_same
              rw [e] at nq
              rw [hP5.1] at nq
              cases nq
      · rintro σ H3 ⟨z3, qs3, rfl, s3, ept3, hP3⟩
        refine ⟨_, _, qs3, rfl, s3, ept3, ?_⟩
        rw [take_more hx, List.flatMap_append, List.flatMap_cons, List.flatMap_nil, List.append_nil]
        rw [List.take_of_length_le (l := List.range' (x + 1) (o.many - x)) (by rw [List.length_range']; omega)] at hP3
        exact hP3
    · rintro σ H2 ⟨y2, y3, qs, rfl, s2, ept2, hP⟩
      refine ⟨_, rfl, k H2 pf s2 ⟨nf, qs, ?_⟩⟩
      rw [nV_len, List.take_length, ← open_eq] at hP
      exact hP
/-! ### next_pairs_of -/
abbrev sNextP : Stmt := topS 8
theorem scNextP : FnScope ["order", "found", "one", "other", "between", "thing"] ["order"] (defScope sNextP) := ⟨rfl, rfl, rfl, by decide +kernel, rfl, by decide +kernel, by decide +kernel⟩
def nextP (o : Order) (x y : Nat) : Bool := below o x y && (things o).all fun z => !(below o x z && below o z y)
theorem next_eq (o : Order) : Or01.next o = (things o).flatMap fun x => ((things o).filter (nextP o x)).map fun y => (x, y) := rfl
theorem next_between {o : Order} (g : Good o) {x y : Nat} (hx : x ∈ things o) {ls : List Nat} (hl : ∀ z, z ∈ ls ↔ Bel o.told z y) : nextP o x y = (below o x y && decide ((ls.filter fun z => below o x z).length = 0)) := by
  unfold nextP
  congr 1
  rw [Bool.eq_iff_iff, List.all_eq_true, decide_eq_true_iff, List.length_eq_zero_iff, List.filter_eq_nil_iff]
  constructor
  · intro h z hz
    have b := (hl z).mp hz
    have m := g.fst b
    have := h z m
    rw [(Oo.below_iff g m).mpr b] at this
    simpa using this
  · intro h z hz
    cases c : below o z y with
    | false => simp
    | true =>
      have := h z ((hl z).mpr ((Oo.below_iff g hz).mp c))
      simpa using this
def spNextP (C : Addr) : Sp := fun vs H Q _ => ∃ (a t : Addr) (o : Order), vs = [.ref a] ∧ OrdAt C H a t o ∧ Good o ∧ ∀ (H' : Hp) (p : Addr), Same H H' → NewPairs H H' p (Or01.next o) → Q (.ref p) H'
theorem c_nextP (B : Bn mg) (Th : Cal P w K mg base "things_of" 1 ["order"] (spThings C)) (L : Cal P w K mg base "lower_ones" 1 ["order", "thing"] (spLower C)) (Bl : Cal P w K mg base "lies_below" 2 ["order", "one", "other"] (spBelow C)) (D : DefX K mg "next_pairs_of" sNextP ["order"]) : Cal P w K mg base "next_pairs_of" 3 ["order"] (spNextP C) := by
  refine D.cal fun f fd F => ?_
  refine F.ok scNextP (fun vs H Q E h => ?_) (fun cdv A outer s H vs Q E hr h => ?_)
  · obtain ⟨a, t, o, rfl, _⟩ := h
    rfl
  · obtain ⟨a, t, o, rfl, hO, g, k⟩ := h
    have nd := scNextP.nd
    have h7 := g.most
    have hr1 := hr.mono (j := 1) (by decide)
    have hr2 := hr.mono (j := 2) (by decide)
    refine ⟨_, pss_cons (ps_set (i := 1) nd rfl (.inl rfl) (pe_lst pa_nil))
      (pss_cons (ps_for PassesOwn.never rfl (pi_list (pe_cal Th hr1 (by rfl) (pa_cons (pv 0) pa_nil))) (pg_name (i := 2) nd rfl (.inr rfl))
        (pss_one (ps_for PassesOwn.never rfl (pi_list (pe_cal Th hr1 (by rfl) (pa_cons (pv 0) pa_nil))) (pg_name (i := 3) nd rfl (.inl rfl))
          (pss_one (ps_if (pt_val (pe_cal Bl hr2 (by rfl) (pa_cons (pv 0) (pa_cons (pv 2) (pa_cons (pv 3) pa_nil)))))
            (pss_cons (ps_setLc (i := 4) (own := [("thing", 5)]) (g := gName 5) (tt := tB (tCall (spBelow C) [] E0 (tCons (tVar 0) (tCons (tVar 2) (tCons (tVar 5) tNil))))) (te := tVar 5) rfl nd rfl rfl (sw_true rfl rfl rfl (by decide +kernel))
                (pi_list (pe_cal L hr1 (by rfl) (pa_cons (pv 0) (pa_cons (pv 3) pa_nil)))) (blkOk_by (N := ["order", "found", "one", "other", "between", "thing"]) (sc := defScope sNextP) (by decide +kernel))
                (fun _ _ _ _ _ => pg_name (i := 5) nd rfl (Or.inl rfl)) (fun _ _ _ _ _ => pts_one (pt_val (pe_cal Bl hr2 (by rfl) (pa_cons (pv 0) (pa_cons (pv 2) (pa_cons (pv 5) pa_nil)))))) (fun _ _ _ _ _ => pv 5))
            (pss_one (ps_if (pt_cmpR op_eq (pe_callB call_len_seq (by rfl) B.len PySem.boot_len (pa_cons (pv 4) pa_nil)) pe_int (nomark _))
              (pss_one (ps_expr (pe_bm PySem.F.plainAttrs_list PySem.F.slot_list_append PySem.F.type_list_append mt_append (pv 1) (pa_cons (pe_tup (pa_cons (pv 2) (pa_cons (pv 3) pa_nil))) pa_nil)))) pss_nil))) pss_nil)))))
      (pss_one (ps_ret (pv 1)))), ?_⟩
    refine ⟨Nat.zero_le _, fun pf nf => ?_⟩
    have s0 : Same H (upd H pf (.lst [])) := same_upd nf
    refine ⟨_, rfl, a, t, o, rfl, hO.same s0, h7, fun H1 pt s1 npt ept => ?_⟩
    have npf : pt ≠ pf := fun e => by rw [e, upd_same] at npt; cases npt
    refine ⟨pt, rfl, ⟨_, SqL.of ept⟩, for_list (K := K) (a := pt) (xs := nV (things o)) (fun i σ H' => ∃ (y2 y3 y4 : Option V) (qs : List Addr), σ = [some (.ref a), some (.ref pf), y2, y3, y4, none] ∧ Same H H' ∧ H' pt = some (.lst (nV (things o))) ∧
        ObjsAt pairO H H' pf qs (((things o).take i).flatMap fun x => ((things o).filter (nextP o x)).map fun y => (x, y)))
      ⟨none, none, none, [], rfl, s0.trans s1, ept, (ObjsAt.nil upd_same).same s1⟩ (fun i σ H' _ ⟨_, _, _, _, _, _, q, _⟩ => SqL.of q) ?_ ?_⟩
    · rintro i y σ H2 hi ⟨y2, y3, y4, qs, rfl, s2, ept2, hP⟩
      obtain ⟨x, hx, rfl⟩ := nV_get hi
      have hxt := List.mem_of_getElem? hx
      refine ⟨_, rfl, a, t, o, rfl, hO.same s2, h7, fun H3 pu s3 npu epu => ?_⟩
      have npuf : pu ≠ pf := fun e => by rw [e] at npu; rw [hP.1] at npu; cases npu
      refine ⟨pu, rfl, ⟨_, SqL.of epu⟩, for_list (K := K) (a := pu) (xs := nV (things o)) (fun j σ H' => ∃ (y3 y4 : Option V) (qs : List Addr), σ = [some (.ref a), some (.ref pf), some (.int (x : Nat)), y3, y4, none] ∧ Same H H' ∧ H' pt = some (.lst (nV (things o))) ∧ H' pu = some (.lst (nV (things o))) ∧
          ObjsAt pairO H H' pf qs ((((things o).take i).flatMap fun x => ((things o).filter (nextP o x)).map fun y => (x, y)) ++ (((things o).take j).filter (nextP o x)).map fun y => (x, y)))
        ⟨y3, y4, qs, rfl, s2.trans s3, s3 _ _ ept2, epu, by rw [List.take_zero, List.filter_nil, List.map_nil, List.append_nil]; exact hP.same s3⟩ (fun i σ H' _ ⟨_, _, _, _, _, _, q, _⟩ => SqL.of q) ?_ ?_⟩
      · rintro j y σ H4 hj ⟨z3, z4, qs4, rfl, s4, ept4, epu4, hP4⟩
        obtain ⟨y, hy, rfl⟩ := nV_get hj
        have skip : ∀ H7 (v4 : Option V), Same H4 H7 → nextP o x y = false → ∃ (y3 y4 : Option V) (qs : List Addr), ([some (.ref a), some (.ref pf), some (.int (x : Nat)), some (.int (y : Nat)), v4, none] : List (Option V)) = [some (.ref a), some (.ref pf), some (.int (x : Nat)), y3, y4, none] ∧ Same H H7 ∧ H7 pt = some (.lst (nV (things o))) ∧ H7 pu = some (.lst (nV (things o))) ∧
            ObjsAt pairO H H7 pf qs ((((things o).take i).flatMap fun x => ((things o).filter (nextP o x)).map fun y => (x, y)) ++ (((things o).take (j + 1)).filter (nextP o x)).map fun y => (x, y)) := fun H7 v4 s7 c => by
          refine ⟨_, _, qs4, rfl, s4.trans s7, s7 _ _ ept4, s7 _ _ epu4, ?_⟩
          rw [take_more hy, List.filter_append, List.filter_cons, if_neg (by rw [c]; exact Bool.false_ne_true), List.filter_nil, List.append_nil]
          exact hP4.same s7
        refine ⟨_, rfl, _, rfl, _, rfl, a, t, o, x, y, rfl, hO.same s4, g, hxt, fun H5 s5 => ⟨_, rfl, ?_⟩⟩
        by_cases c : below o x y = true
        · refine Toy.if_true_of c ?_
          refine ⟨_, rfl, _, rfl, a, t, o, y, rfl, hO.same (s4.trans s5), g, fun H6 pl ls s6 npl epl hm hl => ?_⟩
          refine ⟨pl, rfl, ⟨_, SqL.of epl⟩, fun Dl nDl => lc_list (K := K) (a := pl) (xs := nV ls) (fun m H' => Same H6 H' ∧ H' Dl = some (.lst (nV ((ls.take m).filter fun z => below o x z))))
            ⟨same_upd nDl, upd_same⟩ (fun m H' _ ⟨q, _⟩ => SqL.of (q _ _ epl)) ?_ ?_⟩
          · rintro m v H7 hm7 ⟨s7, eD⟩
            obtain ⟨z, hz, rfl⟩ := nV_get hm7
            have hbz := (hm z).mp (List.mem_of_getElem? hz)
            refine ⟨rfl, ?_⟩
            refine ⟨_, rfl, _, rfl, _, rfl, a, t, o, x, z, rfl, hO.same (((s4.trans s5).trans s6).trans s7), g, hxt, fun H8 s8 => ⟨_, rfl, ?_⟩⟩
            by_cases d : below o x z = true
            · refine Toy.if_true_of d ?_
              refine ⟨_, rfl, _, s8 _ _ eD, small (by rw [nV_len]; have := filt_take_le ls (fun z => below o x z) m; omega), (s7.trans s8).put nDl, ?_⟩
              rw [upd_same, take_more hz, List.filter_append, List.filter_cons, if_pos d, List.filter_nil, nV_snoc]
            · have d' : below o x z = false := by simpa using d
              refine Toy.if_false_of d' ⟨s7.trans s8, ?_⟩
              rw [take_more hz, List.filter_append, List.filter_cons, if_neg d, List.filter_nil, List.append_nil]
              exact s8 _ _ eD
          · rintro H7 ⟨s7, eD⟩
            rw [nV_len, List.take_length] at eD
            have enx := next_between g (y := y) hxt hm
            rw [c, Bool.true_and] at enx
            refine ⟨_, rfl, Dl, _, rfl, .inl (SqL.of eD), rfl, _, rfl, ?_⟩
            rw [nV_len]
            have s47 : Same H4 H7 := (s5.trans s6).trans s7
            by_cases e : (ls.filter fun z => below o x z).length = 0
            · refine Toy.if_true_of (decide_eq_true (by rw [e]; rfl)) ?_
              have hn : nextP o x y = true := by rw [enx, decide_eq_true e]
              have hP7 := hP4.same s47
              refine ⟨_, rfl, .inl ⟨rfl, _, SqL.of hP7.1⟩, _, rfl, _, rfl, (by show 2 ≤ sizeLine; decide), fun q nq => ?_⟩
              have s8 : Same H7 (upd H7 q (.tup (pV (x, y)))) := same_upd nq
              have hP8 := hP7.same s8
              refine ⟨pf, _, _, rfl, rfl, hP8.1, ?_, _, _, qs4 ++ [q], rfl, ((s4.trans s47).trans s8).put nf, ?_, ?_, ?_⟩
              · rw [List.length_map, hP8.len]
                refine small (Nat.le_trans (part2_len (by rw [Oo.things_len]; exact h7) (fun x => ?_) ?_ i) (by decide))
                · rw [List.length_map]
                  have := List.length_filter_le (nextP o x) (things o)
                  rw [Oo.things_len] at this
                  omega
                · rw [List.length_map]
                  have := filt_take_le (things o) (nextP o x) j
                  rw [Oo.things_len] at this
                  omega
              · rw [upd_ne npf]
                exact (s47.trans s8) _ _ ept4
              · rw [upd_ne npuf]
                exact (s47.trans s8) _ _ epu4
              · rw [take_more hy, List.filter_append, List.filter_cons, if_pos hn, List.filter_nil, List.map_append, ← List.append_assoc]
                refine hP8.put (fun e => ?_) ((s4.trans s47).free nq) upd_same
                rw [e] at nq
                rw [hP7.1] at nq
                cases nq
            · refine Toy.if_false_of (decide_eq_false (fun z => e (by have := V.int.inj z; omega))) ?_
              exact skip H7 _ s47 (by rw [enx, decide_eq_false e])
        · have c' : below o x y = false := by simpa using c
          refine Toy.if_false_of c' ?_
          exact skip H5 _ s5 (by unfold nextP; rw [c']; rfl)
      · rintro σ H4 ⟨z3, z4, qs4, rfl, s4, ept4, epu4, hP4⟩
        refine ⟨_, _, _, qs4, rfl, s4, ept4, ?_⟩
        rw [take_more hx, List.flatMap_append, List.flatMap_cons, List.flatMap_nil, List.append_nil]
        rw [nV_len, List.take_length] at hP4
        exact hP4
    · rintro σ H2 ⟨y2, y3, y4, qs, rfl, s2, ept2, hP⟩
      refine ⟨_, rfl, k H2 pf s2 ⟨nf, qs, ?_⟩⟩
      rw [nV_len, List.take_length, ← next_eq] at hP
      exact hP
end
end OW
namespace OW
open PySem PySem.Spec PyProof.Rows L2 OX
open Or01 (Order things below place)
open Oo (Good Bel mem_things shareN spreadN psum)

section
variable {P : Program} {w : World} {K : PySem.W.Frag} {mg : Str → Option Value} {base : Heap} {C : Addr}
/-! ### common -/
abbrev sCommon : Stmt := topS 14
theorem scCommon : FnScope ["one", "other"] ["one", "other"] (defScope sCommon) := ⟨rfl, rfl, rfl, by decide +kernel, rfl, by decide +kernel, by decide +kernel⟩
def spCommon : Sp := fun vs H Q _ => ∃ (x y : Nat), vs = [.int (x : Nat), .int (y : Nat)] ∧ Q (.int ((Nat.gcd x y : Nat) : Int)) H
theorem c_common (D : DefX K mg "common" sCommon ["one", "other"]) : Cal P w K mg base "common" 1 ["one", "other"] spCommon := by
  refine D.cal fun f fd F => ?_
  refine F.ok scCommon (fun vs H Q E h => ?_) (fun cdv A outer s H vs Q E hr h => ?_)
  · obtain ⟨x, y, rfl, _⟩ := h
    rfl
  · obtain ⟨x, y, rfl, k⟩ := h
    have nd := scCommon.nd
    refine ⟨_, pss_cons (ps_while PassesOwn.never (pt_cmpR op_gt (pv 1) pe_int (nomark _))
        (pss_one (ps_par (i := 0) (j := 1) (by rfl) nd rfl rfl (by decide) rfl rfl (pa_cons (pv 1) (pa_cons (pe_op op_modN (pv 0) (pv 1)) pa_nil)) (by rfl))))
      (pss_one (ps_ret (pv 0))), ?_⟩
    refine ⟨fun m σ H' => ∃ (x' y' : Nat), σ = [some (.int (x' : Nat)), some (.int (y' : Nat))] ∧ H' = H ∧ Nat.gcd x' y' = Nat.gcd x y ∧ m = y', ⟨_, x, y, rfl, rfl, rfl, rfl⟩, ?_⟩
    rintro m σ H' ⟨x', y', rfl, rfl, hg, rfl⟩
    refine ⟨_, rfl, _, _, rfl, rfl, _, rfl, ?_⟩
    by_cases c : 0 < m
    · refine Toy.if_true_of (decide_eq_true (by omega)) ?_
      refine ⟨fun σ' H2 => ∃ (x' y' : Nat), σ' = [some (.int (x' : Nat)), some (.int (y' : Nat))] ∧ H2 = H' ∧ Nat.gcd x' y' = Nat.gcd x y ∧ y' < m, fun σ' H2 ⟨a, b, e1, e2, e3, e4⟩ => ⟨b, e4, a, b, e1, e2, e3, rfl⟩, ?_⟩
      refine ⟨_, rfl, _, rfl, _, rfl, _, _, rfl, rfl, by omega, _, _, rfl, m, x' % m, ?_, rfl, ?_, Nat.mod_lt _ c⟩
      · have e : (x' : Int).fmod (m : Int) = ((x' % m : Nat) : Int) := by
          rw [Int.fmod_eq_emod_of_nonneg _ (by omega)]
          rfl
        show [some (V.int (m : Nat)), some (V.int ((x' : Int).fmod (m : Int)))] = _
        rw [e]
      · rw [Nat.gcd_comm m (x' % m), ← Nat.gcd_rec m x', Nat.gcd_comm m x']
        exact hg
    · refine Toy.if_false_of (decide_eq_false (by omega)) ?_
      have e : m = 0 := by omega
      subst e
      rw [Nat.gcd_zero_right] at hg
      refine ⟨_, rfl, ?_⟩
      rw [hg]
      exact k
/-! ### share -/
abbrev sShare : Stmt := topS 15
theorem scShare : FnScope ["upper", "lower", "divisor"] ["upper", "lower"] (defScope sShare) := ⟨rfl, rfl, rfl, by decide +kernel, rfl, by decide +kernel, by decide +kernel⟩
def spShare : Sp := fun vs H Q _ => ∃ (u l : Nat), vs = [.int (u : Nat), .int (l : Nat)] ∧ 0 < l ∧ l ≤ 900000 ∧ ∀ (H' : Hp) (p : Addr), Same H H' → H p = none → H' p = some (.lst (nV (shareN u l))) → Q (.ref p) H'
theorem c_share (Cm : Cal P w K mg base "common" 1 ["one", "other"] spCommon) (D : DefX K mg "share" sShare ["upper", "lower"]) : Cal P w K mg base "share" 2 ["upper", "lower"] spShare := by
  refine D.cal fun f fd F => ?_
  refine F.ok scShare (fun vs H Q E h => ?_) (fun cdv A outer s H vs Q E hr h => ?_)
  · obtain ⟨u, l, rfl, _⟩ := h
    rfl
  · obtain ⟨u, l, rfl, h0, hb, k⟩ := h
    have nd := scShare.nd
    have hgl : Nat.gcd u l ≤ l := Nat.gcd_le_right _ h0
    have hg0 : 0 < Nat.gcd u l := Nat.gcd_pos_of_pos_right _ h0
    refine ⟨_, pss_cons (ps_set (i := 2) nd rfl (.inl rfl) (pe_cal Cm hr (by rfl) (pa_cons (pv 0) (pa_cons (pv 1) pa_nil))))
      (pss_one (ps_ret (pe_lst (pa_cons (pe_op op_fdivN (pv 0) (pv 2)) (pa_cons (pe_op op_fdivN (pv 1) (pv 2)) pa_nil))))), ?_⟩
    have fd : ∀ x : Nat, (x : Int).fdiv ((Nat.gcd u l : Nat) : Int) = ((x / Nat.gcd u l : Nat) : Int) := fun x => by
      rw [Int.fdiv_eq_ediv_of_nonneg _ (by omega)]
      rfl
    refine ⟨_, rfl, _, rfl, u, l, rfl, ?_⟩
    refine ⟨_, rfl, _, rfl, _, _, rfl, rfl, ⟨by omega, by omega⟩, _, rfl, _, rfl, _, _, rfl, rfl, ⟨by omega, by omega⟩, (by show 2 ≤ sizeLine; decide), fun p np => ?_⟩
    refine k _ p (same_upd np) np ?_
    rw [upd_same]
    show some (HO.lst [V.int ((u : Int).fdiv ((Nat.gcd u l : Nat) : Int)), V.int ((l : Int).fdiv ((Nat.gcd u l : Nat) : Int))]) = _
    rw [fd u, fd l]
    rfl
/-! ### many_ahead -/
abbrev sMany : Stmt := topS 16
theorem scMany : FnScope ["rows", "one", "others", "found", "row", "other"] ["rows", "one", "others"] (defScope sMany) := ⟨rfl, rfl, rfl, by decide +kernel, rfl, by decide +kernel, by decide +kernel⟩
def aheadAll (x : Nat) (ys : List Nat) (r : List Nat) : Bool := ys.all fun y => decide (place r x < place r y)
def spMany : Sp := fun vs H Q _ => ∃ (p po : Addr) (rs : List (List Nat)) (x : Nat) (ys : List Nat), vs = [.ref p, .int (x : Nat), .ref po] ∧ RowsAt H p rs ∧ H po = some (.lst (nV ys)) ∧ ys.length ≤ 100 ∧ (∀ r ∈ rs, x ∈ r ∧ ∀ y ∈ ys, y ∈ r) ∧
  ∀ H' : Hp, Same H H' → Q (.int (((rs.filter (aheadAll x ys)).length : Nat) : Int)) H'
theorem c_many_ahead (B : Bn mg) (Ah : Cal P w K mg base "is_ahead" 1 ["row", "one", "other"] spAhead) (D : DefX K mg "many_ahead" sMany ["rows", "one", "others"]) : Cal P w K mg base "many_ahead" 2 ["rows", "one", "others"] spMany := by
  refine D.cal fun f fd F => ?_
  refine F.ok scMany (fun vs H Q E h => ?_) (fun cdv A outer s H vs Q E hr h => ?_)
  · obtain ⟨p, po, rs, x, ys, rfl, _⟩ := h
    rfl
  · obtain ⟨p, po, rs, x, ys, rfl, ⟨qs, h1, h2⟩, ho, hy, hm, k⟩ := h
    have nd := scMany.nd
    refine ⟨_, pss_cons (ps_set (i := 3) nd rfl (.inl rfl) pe_int)
      (pss_cons (ps_for PassesOwn.never rfl (pi_list (pv 0)) (pg_name (i := 4) nd rfl (.inr rfl))
        (pss_one (ps_if (pt_val (pe_callB (cr_all rfl) (by rfl) B.all (by decide +kernel) (pa_cons
              (pe_lc (own := [("other", 5)]) (g := gName 5) (tt := tYes) (te := tCall spAhead [] E0 (tCons (tVar 4) (tCons (tVar 1) (tCons (tVar 5) tNil)))) rfl nd (pi_list (pv 2)) (blkOk_by (N := ["rows", "one", "others", "found", "row", "other"]) (sc := defScope sMany) (by decide +kernel))
                (fun _ _ _ _ _ => pg_name (i := 5) nd rfl (Or.inl rfl)) (fun _ _ _ _ _ => pts_nil) (fun _ _ _ _ _ => pe_cal Ah hr (by rfl) (pa_cons (pv 4) (pa_cons (pv 1) (pa_cons (pv 5) pa_nil))))) pa_nil)))
          (pss_one (ps_aug (i := 3) nd rfl (.inl rfl) pe_int ip_add)) pss_nil)))
      (pss_one (ps_ret (pv 3)))), ?_⟩
    refine ⟨_, rfl, p, rfl, ⟨_, SqL.of h1⟩, for_list (K := K) (a := p) (xs := qs.map V.ref) (fun i σ H' => ∃ y4 : Option V, σ = [some (.ref p), some (.int (x : Nat)), some (.ref po), some (.int ((((rs.take i).filter (aheadAll x ys)).length : Nat) : Int)), y4, none] ∧ Same H H')
      ⟨none, rfl, Same.refl _⟩ (fun i σ H' _ ⟨_, _, q⟩ => SqL.of (q _ _ h1)) ?_ ?_⟩
    · rintro i y σ H2 hi ⟨y4, rfl, s2⟩
      obtain ⟨q, hq, rfl⟩ := ref_get hi
      obtain ⟨r, hr', eq⟩ := OX.paired_get h2 hq
      have hrm := List.mem_of_getElem? hr'
      refine ⟨_, rfl, po, rfl, ⟨_, SqL.of (s2 _ _ ho)⟩, fun Dl nDl => lc_list (K := K) (a := po) (xs := nV ys) (fun m H' => Same H2 H' ∧ H' Dl = some (.lst ((ys.take m).map fun y => V.bl (decide (place r x < place r y)))))
        ⟨same_upd nDl, upd_same⟩ (fun m H' _ ⟨q, _⟩ => SqL.of (q _ _ (s2 _ _ ho))) ?_ ?_⟩
      · rintro m v H3 hm3 ⟨s3, eD⟩
        obtain ⟨y, hy', rfl⟩ := nV_get hm3
        refine ⟨rfl, ?_⟩
        refine ⟨_, rfl, _, rfl, _, rfl, q, r, x, y, rfl, (s2.trans s3) _ _ eq, (hm r hrm).1, (hm r hrm).2 y (List.mem_of_getElem? hy'), ?_⟩
        refine ⟨_, eD, small (by rw [List.length_map, List.length_take]; omega), s3.put nDl, ?_⟩
        rw [upd_same, take_more hy', List.map_append]
        rfl
      · rintro H3 ⟨s3, eD⟩
        rw [nV_len, List.take_length] at eD
        refine ⟨Dl, ys.map fun y => decide (place r x < place r y), rfl, SqL.of (by rw [List.map_map]; exact eD), _, rfl, ?_⟩
        have eall : ((ys.map fun y => decide (place r x < place r y)).all id) = aheadAll x ys r := by
          rw [List.all_map]; rfl
        rw [eall]
        by_cases c : aheadAll x ys r = true
        · refine Toy.if_true_of c ?_
          refine ⟨_, rfl, _, _, rfl, rfl, some (.ref q), ?_, s2.trans s3⟩
          rw [take_more hr', List.filter_append, List.filter_cons, if_pos c, List.filter_nil, List.length_append, List.length_singleton]
          rfl
        · have c' : aheadAll x ys r = false := by simpa using c
          refine Toy.if_false_of c' ⟨some (.ref q), ?_, s2.trans s3⟩
          rw [take_more hr', List.filter_append, List.filter_cons, if_neg c, List.filter_nil, List.append_nil]
          rfl
    · rintro σ H2 ⟨y4, rfl, s2⟩
      refine ⟨_, rfl, ?_⟩
      rw [List.length_map, paired_len h2, List.take_length]
      exact k H2 s2
/-! ### places_of -/
abbrev sPlaces : Stmt := topS 17
theorem scPlaces : FnScope ["rows", "thing", "many", "found", "row"] ["rows", "thing", "many"] (defScope sPlaces) := ⟨rfl, rfl, rfl, by decide +kernel, rfl, by decide +kernel, by decide +kernel⟩
def spPlaces : Sp := fun vs H Q _ => ∃ (p : Addr) (rs : List (List Nat)) (x n : Nat), vs = [.ref p, .int (x : Nat), .int (n : Nat)] ∧ RowsAt H p rs ∧ n ≤ 7 ∧ (∀ r ∈ rs, x ∈ r ∧ place r x < n) ∧
  ∀ (H' : Hp) (q : Addr), Same H H' → H q = none → H' q = some (.lst (nV (spreadN rs x n))) → Q (.ref q) H'
theorem spread_len (rs : List (List Nat)) (x n : Nat) : (spreadN rs x n).length = n := by unfold spreadN; rw [List.length_map, List.length_range]
theorem spread_get {rs : List (List Nat)} {x n k : Nat} (hk : k < n) : (spreadN rs x n)[k]? = some (rs.filter fun r => place r x == k).length := by
  unfold spreadN
  rw [List.getElem?_map, List.getElem?_range hk]
  rfl
theorem spread_snoc (rs : List (List Nat)) (r : List Nat) (x n : Nat) : spreadN (rs ++ [r]) x n = (spreadN rs x n).set (place r x) ((rs.filter fun q => place q x == place r x).length + 1) := by
  apply List.ext_getElem?
  intro k
  by_cases hk : k < n
  · rw [spread_get hk, List.getElem?_set, List.filter_append, List.length_append]
    by_cases c : place r x = k
    · subst c
      rw [if_pos rfl, if_pos (by rw [spread_len]; exact hk)]
      simp
    · rw [if_neg c, spread_get hk]
      have : (place r x == k) = false := by simp [c]
      simp [this]
  · rw [List.getElem?_eq_none (by rw [spread_len]; omega), List.getElem?_eq_none (by rw [List.length_set, spread_len]; omega)]
theorem ixN_nat {n j : Nat} (h : j < n) : ixN n ((j : Nat) : Int) = some j := by
  unfold ixN
  rw [if_pos (by omega), if_pos (by omega)]
  simp
theorem c_places (D : DefX K mg "places_of" sPlaces ["rows", "thing", "many"]) : Cal P w K mg base "places_of" 1 ["rows", "thing", "many"] spPlaces := by
  refine D.cal fun f fd F => ?_
  refine F.ok scPlaces (fun vs H Q E h => ?_) (fun cdv A outer s H vs Q E hr h => ?_)
  · obtain ⟨p, rs, x, n, rfl, _⟩ := h
    rfl
  · obtain ⟨p, rs, x, n, rfl, ⟨qs, h1, h2⟩, hn, hm, k⟩ := h
    have nd := scPlaces.nd
    refine ⟨_, pss_cons (ps_set (i := 3) nd rfl (.inl rfl) (pe_op op_rep (pe_lst (pa_cons pe_int pa_nil)) (pv 2)))
      (pss_cons (ps_for PassesOwn.never rfl (pi_list (pv 0)) (pg_name (i := 4) nd rfl (.inl rfl))
        (pss_one (ps_augS (pv 3) (pe_bm PySem.F.plainAttrs_list PySem.F.slot_list_index PySem.F.type_list_index mt_index (pv 4) (pa_cons (pv 1) pa_nil)) get_list pe_int ip_add set_list)))
      (pss_one (ps_ret (pv 3)))), ?_⟩
    refine ⟨(by show 1 ≤ sizeLine; decide), fun l0 nl0 => ⟨_, rfl, l0, _, _, rfl, rfl, upd_same, by omega, by omega, ?_, fun pf npf => ?_⟩⟩
    · rw [sizeLine_eq]; simp; omega
    have s0 : Same H (upd H l0 (.lst [.int 0])) := same_upd nl0
    have nf : H pf = none := s0.free npf
    have e0 : (List.replicate ((n : Nat) : Int).toNat [V.int 0]).flatten = nV (spreadN [] x n) := by
      rw [show ((n : Nat) : Int).toNat = n by omega]
      unfold spreadN nV
      rw [List.map_map]
      apply List.ext_getElem?
      intro k
      by_cases hk : k < n
      · rw [List.getElem?_map, List.getElem?_range hk]
        have : ∀ n : Nat, (List.replicate n [V.int 0]).flatten = List.replicate n (V.int 0) := by
          intro n
          induction n with
          | zero => rfl
          | succ n ih => rw [List.replicate_succ, List.flatten_cons, ih]; rfl
        rw [this, List.getElem?_replicate, if_pos hk]
        rfl
      · rw [List.getElem?_eq_none (by simp; omega), List.getElem?_eq_none (by simp; omega)]
    refine ⟨_, rfl, p, rfl, ⟨_, SqL.of ((s0.trans (same_upd npf)) _ _ h1)⟩, for_list (K := K) (a := p) (xs := qs.map V.ref) (fun i σ H' => ∃ y4 : Option V, σ = [some (.ref p), some (.int (x : Nat)), some (.int (n : Nat)), some (.ref pf), y4] ∧ Same H H' ∧ H' pf = some (.lst (nV (spreadN (rs.take i) x n))))
      ⟨none, rfl, s0.put nf, ?_⟩ (fun i σ H' _ ⟨_, _, q, _⟩ => SqL.of (q _ _ h1)) ?_ ?_⟩
    · rw [upd_same, e0]
      rfl
    · rintro i y σ H2 hi ⟨y4, rfl, s2, ef⟩
      obtain ⟨q, hq, rfl⟩ := ref_get hi
      obtain ⟨r, hr', eq⟩ := OX.paired_get h2 hq
      obtain ⟨hx, hp⟩ := hm r (List.mem_of_getElem? hr')
      obtain ⟨i1, i2⟩ := index_nV hx
      have er := s2 _ _ eq
      refine ⟨_, rfl, _, rfl, .inl ⟨rfl, _, SqL.of er⟩, _, rfl, q, _, _, _, _, rfl, rfl, SqL.of er, rfl, flat_nV r, i1, eqV_self x, i2, ?_⟩
      refine ⟨pf, _, place r x, .int (((rs.take i).filter fun q => place q x == place r x).length : Nat), rfl, rfl, ef, ?_, ?_⟩
      · unfold nV
        rw [List.getElem?_map, spread_get hp]
        rfl
      refine ⟨_, _, rfl, rfl, pf, _, _, place r x, rfl, rfl, ef, ixN_nat (by rw [nV_len, spread_len]; exact hp), _, rfl, s2.put nf, ?_⟩
      rw [upd_same, take_more hr', spread_snoc]
      unfold nV
      rw [List.map_set]
      rfl
    · rintro σ H2 ⟨y4, rfl, s2, ef⟩
      refine ⟨_, rfl, k H2 pf s2 nf ?_⟩
      rw [List.length_map, paired_len h2, List.take_length] at ef
      exact ef
/-! ### place_sum -/
abbrev sPsum : Stmt := topS 18
theorem scPsum : FnScope ["places", "at", "many"] ["places"] (defScope sPsum) := ⟨rfl, rfl, rfl, by decide +kernel, rfl, by decide +kernel, by decide +kernel⟩
def spPsum : Sp := fun vs H Q _ => ∃ (p : Addr) (l : List Nat), vs = [.ref p] ∧ H p = some (.lst (nV l)) ∧ l.length ≤ 100 ∧ ∀ H' : Hp, Same H H' → Q (.int ((psum l : Nat) : Int)) H'
theorem sum_nat : ∀ l : List Nat, (l.map fun (n : Nat) => (n : Int)).sum = ((l.sum : Nat) : Int)
  | [] => rfl
  | a :: l => by rw [List.map_cons, List.sum_cons, List.sum_cons, sum_nat l]; omega
theorem c_psum (B : Bn mg) (D : DefX K mg "place_sum" sPsum ["places"]) : Cal P w K mg base "place_sum" 1 ["places"] spPsum := by
  refine D.cal fun f fd F => ?_
  refine F.ok scPsum (fun vs H Q E h => ?_) (fun cdv A outer s H vs Q E hr h => ?_)
  · obtain ⟨p, l, rfl, _⟩ := h
    rfl
  · obtain ⟨p, l, rfl, hp, hl, k⟩ := h
    have nd := scPsum.nd
    refine ⟨_, pss_one (ps_ret (pe_callB (cr_sum rfl) (by rfl) B.sum (by decide +kernel) (pa_cons
        (pe_lc (own := [("at", 1), ("many", 2)]) (g := gTup K 2 (gCons (gName 1) (gCons (gName 2) gNil))) (tt := tYes) (te := tOp (rI CMul fun i j => .int (i * j)) (tOp (rI0 fun i j => .int (i + j)) (tVar 1) (tC (.int 1))) (tVar 2)) rfl nd (pi_enum (by rfl) B.enumerate (pa_cons (pv 0) pa_nil)) (blkOk_by (N := ["places", "at", "many"]) (sc := defScope sPsum) (by decide +kernel))
          (fun _ _ _ _ _ => pg_tup rfl (pgs_cons (pg_name (i := 1) nd rfl (.inl rfl)) (pgs_cons (pg_name (i := 2) nd rfl (.inl rfl)) pgs_nil))) (fun _ _ _ _ _ => pts_nil) (fun _ _ _ _ _ => pe_op op_mul (pe_op op_add (pv 1) pe_int) (pv 2))) pa_nil))), ?_⟩
    refine ⟨_, rfl, p, _, rfl, SqL.of hp, fun Dl nDl => lc_it (walk_enum (xs := nV l)) (fun m H' => Same H H' ∧ H' Dl = some (.lst (((l.take m).zipIdx.map fun q => V.int (((q.2 + 1) * q.1 : Nat) : Int)))))
      ⟨same_upd nDl, upd_same⟩ (fun m H' _ ⟨q, _⟩ => SqL.of (q _ _ hp)) ?_ ?_⟩
    · rintro i v H1 H2 hi ⟨s1, eD⟩ ⟨T, x1, x2, rfl, nT, rfl, e1, e2⟩
      obtain ⟨m, hm, rfl⟩ := nV_get e2
      cases Option.some.inj e1
      have hil : i < l.length := (List.getElem?_eq_some_iff.mp hm).1
      have hDT : Dl ≠ T := ne_of_none eD nT
      refine ⟨T, _, rfl, SqT.of upd_same, rfl, _, _, rfl, _, _, rfl, rfl, rfl, ?_⟩
      refine ⟨_, rfl, _, _, rfl, rfl, _, rfl, _, _, rfl, rfl, .inl ⟨by omega, by omega⟩, _, (by rw [upd_ne hDT]; exact eD), small (by rw [List.length_map, List.length_zipIdx, List.length_take]; omega), (s1.trans (same_upd nT)).put nDl, ?_⟩
      rw [upd_same, take_more hm, List.zipIdx_append, List.map_append]
      congr 3
      rw [List.length_take, Nat.min_eq_left (by omega)]
      show [V.int (((i : Int) + 1) * (m : Int))] = [V.int ((((0 + i) + 1) * m : Nat) : Int)]
      congr 2
      rw [Nat.zero_add, Int.natCast_mul]
      rfl
    · rintro H2 ⟨s1, eD⟩
      rw [nV_len, List.take_length] at eD
      refine ⟨Dl, l.zipIdx.map fun q => (((q.2 + 1) * q.1 : Nat) : Int), rfl, SqL.of (by rw [List.map_map]; exact eD), ?_⟩
      have e : (l.zipIdx.map fun q => (((q.2 + 1) * q.1 : Nat) : Int)).sum = ((psum l : Nat) : Int) := by
        unfold psum
        rw [← sum_nat, List.map_map]
        rfl
      rw [e]
      exact k H2 s1
end
end OW
namespace OW
open PySem PySem.Spec PyProof.Rows L2 OX
open Or01 (Order things below place isThing step)
open Oo (Good Bel mem_things shareN spreadN psum)

def iV (l : List Int) : List V := l.map V.int
theorem nV_iV (r : List Nat) : nV r = iV (Or01.ints r) := by
  unfold nV iV Or01.ints
  rw [List.map_map]
  rfl
/-- what a call leaves: the order as it is then, the answer at p, all else but the told list as it was -/
structure Ans (C : Addr) (H H' : Hp) (a t : Addr) (o' : Order) (p : Addr) (ans : List Int) : Prop where
  keep : ∀ b u, H b = some u → b ≠ t → H' b = some u
  ord : OrdAt C H' a t o'
  new : H p = none
  ans : H' p = some (.lst (iV ans))
theorem ans_same {C : Addr} {H H' : Hp} {a t p : Addr} {o : Order} {ans : List Int} (s : Same H H') (hO : OrdAt C H a t o) (n : H p = none) (e : H' p = some (.lst (iV ans))) : Ans C H H' a t o p ans := ⟨fun b u h _ => s b u h, hO.same s, n, e⟩
/-- a call's promise: its numbers (and row) are R, it answers as the step does -/
def spC (C : Addr) (R : Hp → List V → Or01.Call → Prop) : Sp := fun vs H Q _ => ∃ (a t : Addr) (o : Order) (ws : List V) (c : Or01.Call), vs = .ref a :: ws ∧ R H ws c ∧ OrdAt C H a t o ∧ Good o ∧ o.told.length ≤ 1000 ∧
  ∀ (H' : Hp) (p : Addr), Ans C H H' a t (step o c).1 p (step o c).2 → Q (.ref p) H'
def R0 (c : Or01.Call) : Hp → List V → Or01.Call → Prop := fun _ ws d => ws = [] ∧ d = c
def R1 (f : Nat → Or01.Call) : Hp → List V → Or01.Call → Prop := fun _ ws d => ∃ x : Nat, ws = [.int (x : Nat)] ∧ d = f x
def R2' (f : Nat → Nat → Or01.Call) : Hp → List V → Or01.Call → Prop := fun _ ws d => ∃ x y : Nat, ws = [.int (x : Nat), .int (y : Nat)] ∧ d = f x y
def R3 (f : Nat → Nat → Nat → Or01.Call) : Hp → List V → Or01.Call → Prop := fun _ ws d => ∃ x y z : Nat, ws = [.int (x : Nat), .int (y : Nat), .int (z : Nat)] ∧ d = f x y z
def RR (f : List Nat → Or01.Call) : Hp → List V → Or01.Call → Prop := fun H ws d => ∃ (q : Addr) (l : List Nat), ws = [.ref q] ∧ H q = some (.lst (nV l)) ∧ d = f l
/-- the module's numbers -/
structure Gn (mg : Str → Option Value) : Prop where
  seven : ∃ t, mg "MOST_THINGS" = some (.int 7 t)
  four : ∃ t, mg "MOST_ASKED" = some (.int 4 t)
  five : ∃ t, mg "RANK" = some (.int 5 t)
section
variable {P : Program} {w : World} {K : PySem.W.Frag} {mg : Str → Option Value} {base : Heap} {C : Addr}
/-! ### is_number -/
abbrev sIsNum : Stmt := topS 22
theorem scIsNum : FnScope ["many"] ["many"] (defScope sIsNum) := ⟨rfl, rfl, rfl, by decide +kernel, rfl, by decide +kernel, by decide +kernel⟩
def spIsNum : Sp := fun vs H Q _ => ∃ (n : Nat), vs = [.int (n : Nat)] ∧ Q (.bl (decide (1 ≤ n) && decide (n ≤ 7))) H
theorem dec_nat_le {m n : Nat} : decide ((m : Int) ≤ (n : Int)) = decide (m ≤ n) := by
  rw [Bool.eq_iff_iff, decide_eq_true_iff, decide_eq_true_iff]
  omega
theorem c_isnum (G : Gn mg) (D : DefX K mg "is_number" sIsNum ["many"]) : Cal P w K mg base "is_number" 1 ["many"] spIsNum := by
  refine D.cal fun f fd F => ?_
  refine F.ok scIsNum (fun vs H Q E h => ?_) (fun cdv A outer s H vs Q E hr h => ?_)
  · obtain ⟨n, rfl, _⟩ := h
    rfl
  · obtain ⟨n, rfl, k⟩ := h
    obtain ⟨t, h7⟩ := G.seven
    refine ⟨_, pss_one (ps_ret (pe_chain op_le op_le pe_int (pv 0) (pe_glob rfl h7 (v := .int 7) ⟨_, rfl⟩))), ?_⟩
    refine ⟨_, rfl, _, _, rfl, rfl, _, rfl, ?_⟩
    have e1 : decide ((1 : Int) ≤ (n : Int)) = decide (1 ≤ n) := dec_nat_le (m := 1)
    have e2 : decide ((n : Int) ≤ (7 : Int)) = decide (n ≤ 7) := dec_nat_le (n := 7)
    by_cases c : 1 ≤ n
    · refine Toy.if_true_of (by show decide ((1 : Int) ≤ (n : Int)) = true; rw [e1]; exact decide_eq_true c) ?_
      refine ⟨_, _, rfl, rfl, ?_⟩
      show Q (.bl (decide ((n : Int) ≤ (7 : Int)))) H
      rw [e2]
      rw [decide_eq_true c, Bool.true_and] at k
      exact k
    · refine Toy.if_false_of (by show decide ((1 : Int) ≤ (n : Int)) = false; rw [e1]; exact decide_eq_false c) ?_
      rw [decide_eq_false c, Bool.false_and] at k
      exact k
/-! ### is_thing -/
abbrev sIsTh : Stmt := topS 24
theorem scIsTh : FnScope ["order", "thing"] ["order", "thing"] (defScope sIsTh) := ⟨rfl, rfl, rfl, by decide +kernel, rfl, by decide +kernel, by decide +kernel⟩
def spIsTh (C : Addr) : Sp := fun vs H Q _ => ∃ (a t : Addr) (o : Order) (x : Nat), vs = [.ref a, .int (x : Nat)] ∧ OrdAt C H a t o ∧ Q (.bl (isThing o x)) H
theorem c_isth (T : OrdX K mg C) (D : DefX K mg "is_thing" sIsTh ["order", "thing"]) : Cal P w K mg base "is_thing" 1 ["order", "thing"] (spIsTh C) := by
  refine D.cal fun f fd F => ?_
  refine F.ok scIsTh (fun vs H Q E h => ?_) (fun cdv A outer s H vs Q E hr h => ?_)
  · obtain ⟨a, t, o, x, rfl, _⟩ := h
    rfl
  · obtain ⟨a, t, o, x, rfl, ⟨dx, h1, h2⟩, k⟩ := h
    refine ⟨_, pss_one (ps_ret (pe_chain op_le op_le pe_int (pv 1) (pe_fld (pv 0) rfl))), ?_⟩
    refine ⟨_, rfl, _, _, rfl, rfl, _, rfl, ?_⟩
    have e1 : decide ((1 : Int) ≤ (x : Int)) = decide (1 ≤ x) := dec_nat_le (m := 1)
    have e2 : decide ((x : Int) ≤ (o.many : Int)) = decide (x ≤ o.many) := dec_nat_le
    unfold isThing at k
    by_cases c : 1 ≤ x
    · refine Toy.if_true_of (by show decide ((1 : Int) ≤ (x : Int)) = true; rw [e1]; exact decide_eq_true c) ?_
      refine ⟨_, rfl, a, C, dx, _, _, rfl, h1, T.c.cl, T.nM, ordF_many _ _, _, _, rfl, rfl, ?_⟩
      show Q (.bl (decide ((x : Int) ≤ (o.many : Int)))) H
      rw [e2]
      rw [decide_eq_true c, Bool.true_and] at k
      exact k
    · refine Toy.if_false_of (by show decide ((1 : Int) ≤ (x : Int)) = false; rw [e1]; exact decide_eq_false c) ?_
      rw [decide_eq_false c, Bool.false_and] at k
      exact k
theorem isThing_mem {o : Order} {x : Nat} : isThing o x = true ↔ x ∈ things o := by
  unfold isThing
  rw [Bool.and_eq_true, decide_eq_true_iff, decide_eq_true_iff, mem_things]
/-! ### are_two -/
abbrev sTwo : Stmt := topS 25
theorem scTwo : FnScope ["order", "one", "other"] ["order", "one", "other"] (defScope sTwo) := ⟨rfl, rfl, rfl, by decide +kernel, rfl, by decide +kernel, by decide +kernel⟩
def two (o : Order) (x y : Nat) : Bool := isThing o x && (isThing o y && !decide (x = y))
theorem two_true {o : Order} {x y : Nat} (h : two o x y = true) : x ∈ things o ∧ y ∈ things o ∧ x ≠ y := by
  unfold two at h
  rw [Bool.and_eq_true, Bool.and_eq_true, isThing_mem, isThing_mem] at h
  exact ⟨h.1, h.2.1, by simpa using h.2.2⟩
theorem two_false {o : Order} {x y : Nat} (h : two o x y = false) : isThing o x = false ∨ isThing o y = false ∨ x = y := by
  unfold two at h
  cases c : isThing o x with
  | false => exact .inl rfl
  | true =>
    cases d : isThing o y with
    | false => exact .inr (.inl rfl)
    | true =>
      rw [c, d] at h
      simp at h
      exact .inr (.inr h)
theorem not_two {o : Order} {x y : Nat} (h : two o x y = true) : ¬ (isThing o x = false ∨ isThing o y = false ∨ x = y) := by
  obtain ⟨h1, h2, h3⟩ := two_true h
  rw [← isThing_mem] at h1 h2
  rw [h1, h2]
  simp [h3]
def spTwo (C : Addr) : Sp := fun vs H Q _ => ∃ (a t : Addr) (o : Order) (x y : Nat), vs = [.ref a, .int (x : Nat), .int (y : Nat)] ∧ OrdAt C H a t o ∧ Q (.bl (two o x y)) H
theorem c_two (It : Cal P w K mg base "is_thing" 1 ["order", "thing"] (spIsTh C)) (D : DefX K mg "are_two" sTwo ["order", "one", "other"]) : Cal P w K mg base "are_two" 2 ["order", "one", "other"] (spTwo C) := by
  refine D.cal fun f fd F => ?_
  refine F.ok scTwo (fun vs H Q E h => ?_) (fun cdv A outer s H vs Q E hr h => ?_)
  · obtain ⟨a, t, o, x, y, rfl, _⟩ := h
    rfl
  · obtain ⟨a, t, o, x, y, rfl, hO, k⟩ := h
    refine ⟨_, pss_one (ps_ret (pe_and (pe_cal It hr (by rfl) (pa_cons (pv 0) (pa_cons (pv 1) pa_nil))) (pe_and (pe_cal It hr (by rfl) (pa_cons (pv 0) (pa_cons (pv 2) pa_nil))) (pe_one (pe_cmpR op_ne (pv 1) (pv 2) (nomark _)))))), ?_⟩
    refine ⟨_, rfl, _, rfl, a, t, o, x, rfl, hO, _, rfl, ?_⟩
    unfold two at k
    by_cases c : isThing o x = true
    · refine Toy.if_true_of c ⟨_, rfl, _, rfl, a, t, o, y, rfl, hO, _, rfl, ?_⟩
      rw [c, Bool.true_and] at k
      by_cases d : isThing o y = true
      · refine Toy.if_true_of d ⟨_, rfl, _, rfl, rfl, ?_⟩
        rw [d, Bool.true_and] at k
        have e : decide (V.int (x : Int) = V.int (y : Int)) = decide (x = y) := by
          rw [Bool.eq_iff_iff, decide_eq_true_iff, decide_eq_true_iff]
          constructor
          · intro h; have := V.int.inj h; omega
          · intro h; rw [h]
        show Q (.bl (!decide (V.int (x : Int) = V.int (y : Int)))) H
        rw [e]
        exact k
      · have d' : isThing o y = false := by simpa using d
        refine Toy.if_false_of d' ?_
        rw [d', Bool.false_and] at k
        exact k
    · have c' : isThing o x = false := by simpa using c
      refine Toy.if_false_of c' ?_
      rw [c', Bool.false_and] at k
      exact k
/-! ### less -/
abbrev sLess : Stmt := topS 26
theorem scLess : FnScope ["order", "one", "other"] ["order", "one", "other"] (defScope sLess) := ⟨rfl, rfl, rfl, by decide +kernel, rfl, by decide +kernel, by decide +kernel⟩
theorem ref_len {α : Type} {F : Addr → α → Prop} {qs : List Addr} {xs : List α} (h : Paired F qs xs) : (qs.map V.ref).length = xs.length := by rw [List.length_map, paired_len h]
theorem c_less (T : OrdX K mg C) (B : Bn mg) (Tw : Cal P w K mg base "are_two" 2 ["order", "one", "other"] (spTwo C)) (Bl : Cal P w K mg base "lies_below" 2 ["order", "one", "other"] (spBelow C)) (Al : Cal P w K mg base "all_rows" 2 ["order"] (spAll C))
    (D : DefX K mg "less" sLess ["order", "one", "other"]) : Cal P w K mg base "less" 3 ["order", "one", "other"] (spC C (R2' .less)) := by
  refine D.cal fun f fd F => ?_
  refine F.ok scLess (fun vs H Q E h => ?_) (fun cdv A outer s H vs Q E hr h => ?_)
  · obtain ⟨a, t, o, ws, c, rfl, ⟨x, y, rfl, _⟩, _⟩ := h
    rfl
  · obtain ⟨a, t, o, ws, c, rfl, ⟨x, y, rfl, rfl⟩, hO, g, hl, k⟩ := h
    refine ⟨_, pss_cons (ps_if (pt_not (pt_val (pe_cal Tw hr (by rfl) (pa_cons (pv 0) (pa_cons (pv 1) (pa_cons (pv 2) pa_nil)))))) (pss_one (ps_ret (pe_lst (pa_cons (pe_un un_neg pe_int) pa_nil)))) pss_nil)
      (pss_cons (ps_if (pt_val (pe_cal Bl hr (by rfl) (pa_cons (pv 0) (pa_cons (pv 2) (pa_cons (pv 1) pa_nil))))) (pss_one (ps_ret (pe_lst (pa_cons (pe_un un_neg pe_int) pa_nil)))) pss_nil)
      (pss_cons (ps_if (pt_val (pe_cal Bl hr (by rfl) (pa_cons (pv 0) (pa_cons (pv 1) (pa_cons (pv 2) pa_nil))))) (pss_one (ps_ret (pe_lst (pa_cons (pe_un un_neg pe_int) pa_nil)))) pss_nil)
      (pss_cons (ps_expr (pe_bm PySem.F.plainAttrs_list PySem.F.slot_list_append PySem.F.type_list_append mt_append (pe_fld (pv 0) rfl) (pa_cons (pe_tup (pa_cons (pv 1) (pa_cons (pv 2) pa_nil))) pa_nil)))
      (pss_one (ps_ret (pe_lst (pa_cons (pe_callB call_len_seq (by rfl) B.len PySem.boot_len (pa_cons (pe_cal Al hr (by rfl) (pa_cons (pv 0) pa_nil)) pa_nil)) pa_nil))))))), ?_⟩
    refine ⟨_, rfl, _, rfl, _, rfl, a, t, o, x, y, rfl, hO, _, rfl, ?_⟩
    by_cases c : two o x y = true
    · refine Toy.if_false_of (by rw [c]; rfl) ?_
      have nt := not_two c
      obtain ⟨hx, hy, ne⟩ := two_true c
      refine ⟨_, rfl, _, rfl, _, rfl, a, t, o, y, x, rfl, hO, g, hy, fun H1 s1 => ⟨_, rfl, ?_⟩⟩
      by_cases d : below o y x = true
      · refine Toy.if_true_of d ⟨_, rfl, (by show 1 ≤ sizeLine; decide), fun p np => ?_⟩
        have e : step o (.less x y) = (o, [-6]) := by
          show (if isThing o x = false ∨ isThing o y = false ∨ x = y then _ else if below o y x = true then _ else _) = _
          rw [if_neg nt, if_pos d]
        rw [e] at k
        exact k _ p (ans_same (s1.trans (same_upd np)) hO (s1.free np) upd_same)
      · refine Toy.if_false_of (by simpa using d) ?_
        refine ⟨_, rfl, _, rfl, _, rfl, a, t, o, x, y, rfl, hO.same s1, g, hx, fun H2 s2 => ⟨_, rfl, ?_⟩⟩
        have s12 := s1.trans s2
        by_cases b : below o x y = true
        · refine Toy.if_true_of b ⟨_, rfl, (by show 1 ≤ sizeLine; decide), fun p np => ?_⟩
          have e : step o (.less x y) = (o, [-4]) := by
            show (if isThing o x = false ∨ isThing o y = false ∨ x = y then _ else if below o y x = true then _ else if below o x y = true then _ else _) = _
            rw [if_neg nt, if_neg d, if_pos b]
          rw [e] at k
          exact k _ p (ans_same (s12.trans (same_upd np)) hO (s12.free np) upd_same)
        · refine Toy.if_false_of (by simpa using b) ?_
          have e : step o (.less x y) = (Or01.with_ o x y, Or01.ints [(Or01.rows (Or01.with_ o x y)).length]) := by
            show (if isThing o x = false ∨ isThing o y = false ∨ x = y then _ else if below o y x = true then _ else if below o x y = true then _ else _) = _
            rw [if_neg nt, if_neg d, if_neg b]
          rw [e] at k
          have nb : ¬ Bel o.told y x := fun q => d ((Oo.below_iff g hy).mpr q)
          have g' := Oo.good_with g hx hy ne nb
          obtain ⟨dx, h1, qs, h2, h3⟩ := hO.same s12
          refine ⟨_, rfl, a, C, dx, _, _, rfl, h1, T.c.cl, T.nT, ordF_told _ _, .inl ⟨rfl, _, SqL.of h2⟩, _, rfl, _, rfl, (by show 2 ≤ sizeLine; decide), fun q nq => ?_⟩
          have s3 : Same H2 (upd H2 q (.tup (pV (x, y)))) := same_upd nq
          refine ⟨t, _, _, rfl, rfl, s3 _ _ h2, small (by rw [ref_len h3]; omega), ?_⟩
          have hqt : q ≠ t := fun e => by rw [e, h2] at nq; cases nq
          have hO4 : OrdAt C (upd (upd H2 q (.tup (pV (x, y)))) t (.lst (qs.map V.ref ++ [.ref q]))) a t (Or01.with_ o x y) := by
            refine ⟨dx, ?_, qs ++ [q], ?_, paired_snoc ?_ (paired_mono (fun b z e => ?_) h3)⟩
            · rw [upd_ne (ne_of (s3 _ _ h1) (s3 _ _ h2) (fun z => nomatch z))]
              exact s3 _ _ h1
            · rw [upd_same, List.map_append]
              rfl
            · rw [upd_ne hqt, upd_same]
            · rw [upd_ne (ne_of (s3 _ _ e) (s3 _ _ h2) (fun z => nomatch z))]
              exact s3 _ _ e
          refine ⟨_, rfl, a, t, Or01.with_ o x y, rfl, hO4, g', fun H5 pr s5 hR => ?_⟩
          obtain ⟨_, qr, hr1, hr2⟩ := hR
          refine ⟨pr, _, rfl, .inl (SqL.of hr1), (by show 1 ≤ sizeLine; decide), fun p np => ?_⟩
          have s6 := s5.trans (same_upd np (o := .lst [.int ((qr.map V.ref).length : Nat)]))
          refine k _ p ⟨fun b u hb hbt => ?_, hO4.same s6, ?_, ?_⟩
          · refine s6 b u ?_
            rw [upd_ne hbt]
            exact s3 _ _ (s12 _ _ hb)
          · have n4 : upd (upd H2 q (.tup (pV (x, y)))) t (.lst (qs.map V.ref ++ [.ref q])) p = none := s5.free np
            have hpt : p ≠ t := fun e => by rw [e, upd_same] at n4; cases n4
            rw [upd_ne hpt] at n4
            exact (s12.trans s3).free n4
          · rw [upd_same, ref_len hr2]
            rfl
    · have c' : two o x y = false := by simpa using c
      refine Toy.if_true_of (by rw [c']; rfl) ⟨_, rfl, (by show 1 ≤ sizeLine; decide), fun p np => ?_⟩
      have e : step o (.less x y) = (o, [-1]) := if_pos (two_false c')
      rw [e] at k
      exact k _ p (ans_same (same_upd np) hO np upd_same)
/-! ### undo -/
abbrev sUndo : Stmt := topS 27
theorem scUndo : FnScope ["order"] ["order"] (defScope sUndo) := ⟨rfl, rfl, rfl, by decide +kernel, rfl, by decide +kernel, by decide +kernel⟩
theorem paired_dropLast {α β : Type} {F : α → β → Prop} {l : List α} {m : List β} (h : Paired F l m) : Paired F l.dropLast m.dropLast := by
  induction h with
  | nil => exact .nil
  | @cons a b l m r t ih =>
    cases t with
    | nil => exact .nil
    | cons r2 t2 =>
      rw [List.dropLast_cons₂, List.dropLast_cons₂]
      exact .cons r ih
theorem c_undo (T : OrdX K mg C) (B : Bn mg) (D : DefX K mg "undo" sUndo ["order"]) : Cal P w K mg base "undo" 1 ["order"] (spC C (R0 .undo)) := by
  refine D.cal fun f fd F => ?_
  refine F.ok scUndo (fun vs H Q E h => ?_) (fun cdv A outer s H vs Q E hr h => ?_)
  · obtain ⟨a, t, o, ws, c, rfl, ⟨rfl, _⟩, _⟩ := h
    rfl
  · obtain ⟨a, t, o, ws, c, rfl, ⟨rfl, rfl⟩, hO, g, hl, k⟩ := h
    obtain ⟨dx, h1, qs, h2, h3⟩ := id hO
    refine ⟨_, pss_cons (ps_if (pt_cmpR op_eq (pe_callB call_len_seq (by rfl) B.len PySem.boot_len (pa_cons (pe_fld (pv 0) rfl) pa_nil)) pe_int (nomark _)) (pss_one (ps_ret (pe_lst (pa_cons (pe_un un_neg pe_int) pa_nil)))) pss_nil)
      (pss_cons (ps_expr (pe_bm0 PySem.F.plainAttrs_list PySem.F.slot_list_pop PySem.F.type_list_pop mt_pop (pe_fld (pv 0) rfl)))
      (pss_one (ps_ret (pe_lst (pa_cons (pe_callB call_len_seq (by rfl) B.len PySem.boot_len (pa_cons (pe_fld (pv 0) rfl) pa_nil)) pa_nil))))), ?_⟩
    refine ⟨_, rfl, a, C, dx, _, _, rfl, h1, T.c.cl, T.nT, ordF_told _ _, t, _, rfl, .inl (SqL.of h2), rfl, _, rfl, ?_⟩
    rw [ref_len h3]
    by_cases c : o.told = []
    · refine Toy.if_true_of (by rw [c]; rfl) ⟨_, rfl, (by show 1 ≤ sizeLine; decide), fun p np => ?_⟩
      have e : step o .undo = (o, [-3]) := if_pos c
      rw [e] at k
      exact k _ p (ans_same (same_upd np) hO np upd_same)
    · have hlen : 0 < o.told.length := List.length_pos_iff.mpr c
      refine Toy.if_false_of (decide_eq_false (fun e => by have := V.int.inj e; omega)) ?_
      have e : step o .undo = ({ o with told := o.told.dropLast }, Or01.ints [o.told.length - 1]) := if_neg c
      rw [e] at k
      have hql : qs.length = o.told.length := paired_len h3
      obtain ⟨qi, q, eq⟩ : ∃ qi q, qs = qi ++ [q] := ⟨qs.dropLast, qs.getLast (by intro z; rw [z] at hql; simp at hql; omega), (List.dropLast_concat_getLast _).symm⟩
      have edl : (qs.map V.ref).dropLast = (qs.dropLast).map V.ref := List.map_dropLast.symm
      have eml : (qs.map V.ref)[(qs.map V.ref).length - 1]? = some (.ref q) := by
        rw [List.length_map, eq, List.length_append, List.length_singleton, Nat.add_sub_cancel, List.getElem?_map, List.getElem?_append_right (Nat.le_refl _), Nat.sub_self]
        rfl
      refine ⟨_, rfl, a, C, dx, _, _, rfl, h1, T.c.cl, T.nT, ordF_told _ _, .inl ⟨rfl, _, SqL.of h2⟩, t, _, _, rfl, rfl, h2, eml, ?_⟩
      rw [edl]
      have h3' : Paired (fun q z => H q = some (.tup (pV z))) qs.dropLast o.told.dropLast := paired_dropLast h3
      have hO4 : OrdAt C (upd H t (.lst (qs.dropLast.map V.ref))) a t { o with told := o.told.dropLast } := by
        refine ⟨dx, ?_, qs.dropLast, upd_same, paired_mono (fun b z e => ?_) h3'⟩
        · rw [upd_ne (ne_of h1 h2 (fun z => nomatch z))]
          exact h1
        · rw [upd_ne (ne_of e h2 (fun z => nomatch z))]
          exact e
      obtain ⟨dx', k1, qs', k2, k3⟩ := id hO4
      refine ⟨_, rfl, a, C, dx', _, _, rfl, k1, T.c.cl, T.nT, ordF_told _ _, t, _, rfl, .inl (SqL.of k2), (by show 1 ≤ sizeLine; decide), fun p np => ?_⟩
      refine k _ p ⟨fun b u hb hbt => ?_, hO4.same (same_upd np), ?_, ?_⟩
      · refine (same_upd np) b u ?_
        rw [upd_ne hbt]
        exact hb
      · have hpt : p ≠ t := fun e => by rw [e, upd_same] at np; cases np
        rw [upd_ne hpt] at np
        exact np
      · rw [upd_same, ref_len k3, List.length_dropLast]
        rfl
/-! ### many -/
abbrev sManyC : Stmt := topS 28
theorem scManyC : FnScope ["order"] ["order"] (defScope sManyC) := ⟨rfl, rfl, rfl, by decide +kernel, rfl, by decide +kernel, by decide +kernel⟩
theorem c_many (B : Bn mg) (Al : Cal P w K mg base "all_rows" 2 ["order"] (spAll C)) (D : DefX K mg "many" sManyC ["order"]) : Cal P w K mg base "many" 3 ["order"] (spC C (R0 .many)) := by
  refine D.cal fun f fd F => ?_
  refine F.ok scManyC (fun vs H Q E h => ?_) (fun cdv A outer s H vs Q E hr h => ?_)
  · obtain ⟨a, t, o, ws, c, rfl, ⟨rfl, _⟩, _⟩ := h
    rfl
  · obtain ⟨a, t, o, ws, c, rfl, ⟨rfl, rfl⟩, hO, g, hl, k⟩ := h
    refine ⟨_, pss_one (ps_ret (pe_lst (pa_cons (pe_callB call_len_seq (by rfl) B.len PySem.boot_len (pa_cons (pe_cal Al hr (by rfl) (pa_cons (pv 0) pa_nil)) pa_nil)) pa_nil))), ?_⟩
    refine ⟨_, rfl, a, t, o, rfl, hO, g, fun H5 pr s5 hR => ?_⟩
    obtain ⟨_, qr, hr1, hr2⟩ := hR
    refine ⟨pr, _, rfl, .inl (SqL.of hr1), (by show 1 ≤ sizeLine; decide), fun p np => ?_⟩
    refine k _ p (ans_same (s5.trans (same_upd np)) hO (s5.free np) ?_)
    rw [upd_same, ref_len hr2]
    rfl
/-! ### nth -/
abbrev sNth : Stmt := topS 29
theorem scNth : FnScope ["order", "number", "rows"] ["order", "number"] (defScope sNth) := ⟨rfl, rfl, rfl, by decide +kernel, rfl, by decide +kernel, by decide +kernel⟩
theorem c_nth (B : Bn mg) (Al : Cal P w K mg base "all_rows" 2 ["order"] (spAll C)) (D : DefX K mg "nth" sNth ["order", "number"]) : Cal P w K mg base "nth" 3 ["order", "number"] (spC C (R1 .nth)) := by
  refine D.cal fun f fd F => ?_
  refine F.ok scNth (fun vs H Q E h => ?_) (fun cdv A outer s H vs Q E hr h => ?_)
  · obtain ⟨a, t, o, ws, c, rfl, ⟨x, rfl, _⟩, _⟩ := h
    rfl
  · obtain ⟨a, t, o, ws, c, rfl, ⟨x, rfl, rfl⟩, hO, g, hl, k⟩ := h
    have nd := scNth.nd
    refine ⟨_, pss_cons (ps_set (i := 2) nd rfl (.inl rfl) (pe_cal Al hr (by rfl) (pa_cons (pv 0) pa_nil)))
      (pss_cons (ps_if (pt_cmpR op_ge (pv 1) (pe_callB call_len_seq (by rfl) B.len PySem.boot_len (pa_cons (pv 2) pa_nil)) (nomark _)) (pss_one (ps_ret (pe_lst (pa_cons (pe_un un_neg pe_int) pa_nil)))) pss_nil)
      (pss_one (ps_ret (pe_ix ix_list (pv 2) (pv 1) (fun _ _ => rfl))))), ?_⟩
    refine ⟨_, rfl, a, t, o, rfl, hO, g, fun H5 pr s5 hR => ?_⟩
    obtain ⟨_, qr, hr1, hr2⟩ := hR
    refine ⟨_, rfl, _, rfl, pr, _, rfl, .inl (SqL.of hr1), _, _, rfl, rfl, _, rfl, ?_⟩
    rw [ref_len hr2]
    cases e : (Or01.rows o)[x]? with
    | none =>
      have hx : (Or01.rows o).length ≤ x := List.getElem?_eq_none_iff.mp e
      refine Toy.if_true_of (decide_eq_true (by omega)) ⟨_, rfl, (by show 1 ≤ sizeLine; decide), fun p np => ?_⟩
      have es : step o (.nth x) = (o, [-2]) := by
        show (o, match (Or01.rows o)[x]? with | none => [-2] | some r => Or01.ints r) = _
        rw [e]
      rw [es] at k
      exact k _ p (ans_same (s5.trans (same_upd np)) hO (s5.free np) upd_same)
    | some r =>
      have hx : x < (Or01.rows o).length := (List.getElem?_eq_some_iff.mp e).1
      refine Toy.if_false_of (decide_eq_false (by omega)) ?_
      have es : step o (.nth x) = (o, Or01.ints r) := by
        show (o, match (Or01.rows o)[x]? with | none => [-2] | some r => Or01.ints r) = _
        rw [e]
      rw [es] at k
      have hql := paired_len hr2
      have hq : qr[x]? = some (qr[x]'(by omega)) := List.getElem?_eq_getElem (by omega)
      obtain ⟨r', e', _, nq, eq⟩ := OX.paired_get hr2 hq
      rw [e] at e'
      cases e'
      refine ⟨_, rfl, _, rfl, pr, _, _, .ref (qr[x]'(by omega)), rfl, rfl, SqL.of hr1, atI_nat (by rw [List.getElem?_map, hq]; rfl), ?_⟩
      refine k H5 _ (ans_same s5 hO nq ?_)
      rw [eq, ← nV_iV]
      rfl
end
end OW
namespace OW
open PySem PySem.Spec PyProof.Rows L2 OX
open Or01 (Order things below place isThing step)
open Oo (Good Bel mem_things shareN spreadN psum)

/-! ### rows as data -/
def rD (r : List Nat) : PyData := .list (r.map fun (n : Nat) => PyData.int (n : Int))
theorem ints_dp {K : PySem.W.Frag} {H : Hp} : ∀ r : List Nat, DpAll K H (nV r) (r.map fun (n : Nat) => PyData.int (n : Int))
  | [] => .nil
  | n :: r => .cons (.int _) (ints_dp r)
theorem row_dp {K : PySem.W.Frag} {H : Hp} {q : Addr} {r : List Nat} (e : H q = some (.lst (nV r))) : Dp K H (.ref q) (rD r) := .lst (SqL.of e) (ints_dp r)
theorem rows_dp {K : PySem.W.Frag} {H : Hp} : ∀ {qs : List Addr} {rs : List (List Nat)}, Paired (fun q r => H q = some (.lst (nV r))) qs rs → DpAll K H (qs.map V.ref) (rs.map rD)
  | _, _, .nil => .nil
  | _, _, .cons r t => .cons (row_dp r) (rows_dp t)
theorem ints_lay : ∀ r : List Nat, PyData.canLayAll0 (r.map fun (n : Nat) => PyData.int (n : Int)) = true
  | [] => by simp [PyData.canLayAll0]
  | n :: r => by simp [PyData.canLayAll0, PyData.canLay0, ints_lay r]
theorem ints_depth : ∀ r : List Nat, PyData.depthAll (r.map fun (n : Nat) => PyData.int (n : Int)) = 0
  | [] => by simp [PyData.depthAll]
  | n :: r => by simp [PyData.depthAll, PyData.depth, ints_depth r]
theorem rD_lay (r : List Nat) : (rD r).canLay0 = true := by simp only [rD, PyData.canLay0]; exact ints_lay r
theorem rD_depth (r : List Nat) : (rD r).depth = 1 := by simp only [rD, PyData.depth, ints_depth]
theorem rDs_lay : ∀ rs : List (List Nat), PyData.canLayAll0 (rs.map rD) = true
  | [] => by simp [PyData.canLayAll0]
  | r :: rs => by simp [PyData.canLayAll0, rD_lay r, rDs_lay rs]
theorem rDs_depth : ∀ rs : List (List Nat), PyData.depthAll (rs.map rD) ≤ 1
  | [] => by simp [PyData.depthAll]
  | r :: rs => by
    have h1 := rDs_depth rs
    simp only [List.map_cons, PyData.depthAll, rD_depth]
    omega
theorem rD_shaped (r : List Nat) : SeqAt.shaped (rD r) = true := by
  show ((rD r).canLay0 && decide ((rD r).depth ≤ 64)) = true
  rw [Bool.and_eq_true, rD_depth]
  exact ⟨rD_lay r, by decide⟩
theorem rDs_shaped (rs : List (List Nat)) : SeqAt.shaped (.list (rs.map rD)) = true := by
  have h1 := rDs_depth rs
  have h2 : PyData.depth (.list (rs.map rD)) ≤ 64 := by
    simp only [PyData.depth]
    omega
  show (PyData.canLay0 (.list (rs.map rD)) && decide (PyData.depth (.list (rs.map rD)) ≤ 64)) = true
  rw [Bool.and_eq_true]
  exact ⟨by simp only [PyData.canLay0]; exact rDs_lay rs, decide_eq_true h2⟩
theorem ints_eqv : ∀ r s : List Nat, PyData.eqvAll (r.map fun (n : Nat) => PyData.int (n : Int)) (s.map fun (n : Nat) => PyData.int (n : Int)) = decide (r = s)
  | [], [] => by simp [PyData.eqvAll]
  | [], _ :: _ => by simp [PyData.eqvAll]
  | _ :: _, [] => by simp [PyData.eqvAll]
  | a :: r, b :: s => by
    simp only [List.map_cons, PyData.eqvAll, PyData.eqv, ints_eqv r s]
    rw [Bool.eq_iff_iff]
    simp only [Bool.and_eq_true, decide_eq_true_iff, beq_iff_eq, List.cons.injEq]
    constructor
    · rintro ⟨h1, h2⟩; exact ⟨by omega, h2⟩
    · rintro ⟨h1, h2⟩; exact ⟨by omega, h2⟩
theorem rD_eqv (r s : List Nat) : PyData.eqv (rD r) (rD s) = decide (r = s) := by
  simp only [rD, PyData.eqv]
  exact ints_eqv r s
theorem takeWhile_first {l : List Nat} : ∀ {rs : List (List Nat)}, l ∈ rs → rs[(rs.takeWhile fun r => r != l).length]? = some l ∧ ∀ (m : Nat) (z : List Nat), m < (rs.takeWhile fun r => r != l).length → rs[m]? = some z → z ≠ l
  | [], h => by cases h
  | r :: rs, h => by
    by_cases c : r = l
    · subst c
      have e : ((r :: rs).takeWhile fun q => q != r) = [] := by rw [List.takeWhile_cons, if_neg (by simp)]
      rw [e]
      exact ⟨rfl, fun m z hm => by simp at hm⟩
    · have e : ((r :: rs).takeWhile fun q => q != l) = r :: rs.takeWhile fun q => q != l := by rw [List.takeWhile_cons, if_pos (by simp [c])]
      obtain ⟨h1, h2⟩ := takeWhile_first (rs := rs) ((List.mem_cons.mp h).resolve_left fun q => c q.symm)
      rw [e, List.length_cons]
      refine ⟨by rw [List.getElem?_cons_succ]; exact h1, fun m z hm hz => ?_⟩
      cases m with
      | zero => simp at hz; rw [← hz]; exact c
      | succ m => rw [List.getElem?_cons_succ] at hz; exact h2 m z (by omega) hz
theorem ahead_one (x y : Nat) : aheadAll x [y] = fun r => decide (place r x < place r y) := by
  funext r
  simp [aheadAll]
theorem ahead_two (x y z : Nat) : aheadAll x [y, z] = fun r => decide (place r x < place r y) && decide (place r x < place r z) := by
  funext r
  simp [aheadAll]
theorem row_mem {o : Order} {r : List Nat} (hr : r ∈ Or01.rows o) {x : Nat} (hx : x ∈ things o) : x ∈ r := (Oo.rows_perm hr).symm.subset hx
theorem ints_append (a b : List Nat) : Or01.ints (a ++ b) = Or01.ints a ++ Or01.ints b := by unfold Or01.ints; rw [List.map_append]
section
variable {P : Program} {w : World} {K : PySem.W.Frag} {mg : Str → Option Value} {base : Heap} {C : Addr}
/-! ### rank -/
abbrev sRank : Stmt := topS 30
theorem scRank : FnScope ["order", "row", "rows"] ["order", "row"] (defScope sRank) := ⟨rfl, rfl, rfl, by decide +kernel, rfl, by decide +kernel, by decide +kernel⟩
theorem c_rank (Al : Cal P w K mg base "all_rows" 2 ["order"] (spAll C)) (D : DefX K mg "rank" sRank ["order", "row"]) : Cal P w K mg base "rank" 3 ["order", "row"] (spC C (RR .rank)) := by
  refine D.cal fun f fd F => ?_
  refine F.ok scRank (fun vs H Q E h => ?_) (fun cdv A outer s H vs Q E hr h => ?_)
  · obtain ⟨a, t, o, ws, c, rfl, ⟨q, l, rfl, _⟩, _⟩ := h
    rfl
  · obtain ⟨a, t, o, ws, c, rfl, ⟨q, l, rfl, eq, rfl⟩, hO, g, hl, k⟩ := h
    have nd := scRank.nd
    have hu : (A.deeper (envOfC "rank" (defScope sRank) s.heap.objs.size f cdv)).units + 65 < cLine := by have := hr.un; omega
    refine ⟨_, pss_cons (ps_set (i := 2) nd rfl (.inl rfl) (pe_cal Al hr (by rfl) (pa_cons (pv 0) pa_nil)))
      (pss_cons (ps_if (pt_cmpR (op_notInD hu) (pv 1) (pv 2) (by rfl)) (pss_one (ps_ret (pe_lst (pa_cons (pe_un un_neg pe_int) pa_nil)))) pss_nil)
      (pss_one (ps_ret (pe_lst (pa_cons (pe_bm PySem.F.plainAttrs_list PySem.F.slot_list_index PySem.F.type_list_index (mt_indexD hu) (pv 2) (pa_cons (pv 1) pa_nil)) pa_nil))))), ?_⟩
    refine ⟨_, rfl, a, t, o, rfl, hO, g, fun H5 pr s5 hR => ?_⟩
    obtain ⟨qr, hr1, hr2⟩ := hR.rows
    have npr := hR.1
    have d1 : Dp K H5 (.ref q) (rD l) := row_dp (s5 _ _ eq)
    have d2 : Dp K H5 (.ref pr) (.list ((Or01.rows o).map rD)) := .lst (SqL.of hr1) (rows_dp hr2)
    refine ⟨_, rfl, _, rfl, rD l, _, d1, d2, rD_shaped l, rDs_shaped _, _, rfl, ?_⟩
    have ein : (((Or01.rows o).map rD).any fun z => PyData.eqv z (rD l)) = (Or01.rows o).contains l := by
      rw [List.any_map, Bool.eq_iff_iff, List.any_eq_true, List.contains_iff_mem]
      constructor
      · rintro ⟨r, hr', e⟩
        have e' : PyData.eqv (rD r) (rD l) = true := e
        rw [rD_eqv, decide_eq_true_iff] at e'
        rw [← e']; exact hr'
      · intro h
        refine ⟨l, h, ?_⟩
        show PyData.eqv (rD l) (rD l) = true
        rw [rD_eqv, decide_eq_true_iff]
    rw [ein]
    by_cases c : (Or01.rows o).contains l = true
    · refine Toy.if_false_of (by rw [c]; rfl) ?_
      have es : step o (.rank l) = (o, Or01.ints [((Or01.rows o).takeWhile fun r => r != l).length]) := by
        show (o, if (Or01.rows o).contains l = false then _ else _) = _
        rw [if_neg (by rw [c]; decide)]
      rw [es] at k
      obtain ⟨h1, h2⟩ := takeWhile_first (List.contains_iff_mem.mp c)
      refine ⟨_, rfl, .inl ⟨rfl, _, SqL.of hr1⟩, _, rfl, pr, .ref q, rD l, (Or01.rows o).map rD, ((Or01.rows o).takeWhile fun r => r != l).length, rD l, rfl, rfl, d2, d1, rDs_shaped _, rD_shaped l, ?_, by rw [rD_eqv, decide_eq_true_iff], fun m z' hm hz => ?_, (by show 1 ≤ sizeLine; decide), fun p np => ?_⟩
      · rw [List.getElem?_map, h1]
        rfl
      · rw [List.getElem?_map] at hz
        cases e : (Or01.rows o)[m]? with
        | none => rw [e] at hz; cases hz
        | some r =>
          rw [e] at hz
          have := Option.some.inj hz
          rw [← this, rD_eqv]
          exact decide_eq_false (h2 m r hm e)
      · exact k _ p (ans_same (s5.trans (same_upd np)) hO (s5.free np) upd_same)
    · have c' : (Or01.rows o).contains l = false := by simpa using c
      refine Toy.if_true_of (by rw [c']; rfl) ⟨_, rfl, (by show 1 ≤ sizeLine; decide), fun p np => ?_⟩
      have es : step o (.rank l) = (o, [-3]) := by
        show (o, if (Or01.rows o).contains l = false then _ else _) = _
        rw [if_pos c']
      rw [es] at k
      exact k _ p (ans_same (s5.trans (same_upd np)) hO (s5.free np) upd_same)
/-! ### chance -/
abbrev sChance : Stmt := topS 31
theorem scChance : FnScope ["order", "one", "other", "rows"] ["order", "one", "other"] (defScope sChance) := ⟨rfl, rfl, rfl, by decide +kernel, rfl, by decide +kernel, by decide +kernel⟩
theorem c_chance (B : Bn mg) (Tw : Cal P w K mg base "are_two" 2 ["order", "one", "other"] (spTwo C)) (Al : Cal P w K mg base "all_rows" 2 ["order"] (spAll C)) (Sh : Cal P w K mg base "share" 2 ["upper", "lower"] spShare)
    (Ma : Cal P w K mg base "many_ahead" 2 ["rows", "one", "others"] spMany) (D : DefX K mg "chance" sChance ["order", "one", "other"]) : Cal P w K mg base "chance" 3 ["order", "one", "other"] (spC C (R2' .chance)) := by
  refine D.cal fun f fd F => ?_
  refine F.ok scChance (fun vs H Q E h => ?_) (fun cdv A outer s H vs Q E hr h => ?_)
  · obtain ⟨a, t, o, ws, c, rfl, ⟨x, y, rfl, _⟩, _⟩ := h
    rfl
  · obtain ⟨a, t, o, ws, c, rfl, ⟨x, y, rfl, rfl⟩, hO, g, hl, k⟩ := h
    have nd := scChance.nd
    refine ⟨_, pss_cons (ps_if (pt_not (pt_val (pe_cal Tw hr (by rfl) (pa_cons (pv 0) (pa_cons (pv 1) (pa_cons (pv 2) pa_nil)))))) (pss_one (ps_ret (pe_lst (pa_cons (pe_un un_neg pe_int) pa_nil)))) pss_nil)
      (pss_cons (ps_set (i := 3) nd rfl (.inl rfl) (pe_cal Al hr (by rfl) (pa_cons (pv 0) pa_nil)))
      (pss_one (ps_ret (pe_cal Sh hr (by rfl) (pa_cons (pe_cal Ma hr (by rfl) (pa_cons (pv 3) (pa_cons (pv 1) (pa_cons (pe_lst (pa_cons (pv 2) pa_nil)) pa_nil)))) (pa_cons (pe_callB call_len_seq (by rfl) B.len PySem.boot_len (pa_cons (pv 3) pa_nil)) pa_nil)))))), ?_⟩
    refine ⟨_, rfl, _, rfl, _, rfl, a, t, o, x, y, rfl, hO, _, rfl, ?_⟩
    by_cases c : two o x y = true
    · refine Toy.if_false_of (by rw [c]; rfl) ?_
      obtain ⟨hx, hy, ne⟩ := two_true c
      have es : step o (.chance x y) = (o, Or01.fraction (Or01.chance o x y)) := by
        show (o, if isThing o x = false ∨ isThing o y = false ∨ x = y then _ else _) = _
        rw [if_neg (not_two c)]
      rw [es] at k
      refine ⟨_, rfl, a, t, o, rfl, hO, g, fun H1 pr s1 hR => ?_⟩
      have hR' := hR.rows
      obtain ⟨qr, hr1, hr2⟩ := id hR'
      refine ⟨_, rfl, _, rfl, _, rfl, (by show 1 ≤ sizeLine; decide), fun po npo => ?_⟩
      have s2 : Same H1 (upd H1 po (.lst (nV [y]))) := same_upd npo
      refine ⟨pr, po, Or01.rows o, x, [y], rfl, hR'.same s2, upd_same, by simp, fun r hr' => ⟨row_mem hr' hx, fun z hz => by rw [List.mem_singleton.mp hz]; exact row_mem hr' hy⟩, fun H3 s3 => ?_⟩
      have s13 := s2.trans s3
      refine ⟨_, rfl, pr, _, rfl, .inl (SqL.of (s13 _ _ hr1)), ?_⟩
      have hp := Oo.rows_pos g
      have hle := Oo.rows_len g
      refine ⟨((Or01.rows o).filter (aheadAll x [y])).length, (Or01.rows o).length, ?_, hp, by omega, fun H4 p s4 np ep => ?_⟩
      · rw [ref_len hr2]
        rfl
      · refine k _ p (ans_same ((s1.trans s13).trans s4) hO ((s1.trans s13).free np) ?_)
        rw [ep, nV_iV]
        have ef : Or01.fraction (Or01.chance o x y) = Or01.ints (shareN ((Or01.rows o).filter (aheadAll x [y])).length (Or01.rows o).length) := by
          unfold Or01.chance
          rw [Oo.fraction_part _ hp, ahead_one]
        rw [ef]
    · have c' : two o x y = false := by simpa using c
      refine Toy.if_true_of (by rw [c']; rfl) ⟨_, rfl, (by show 1 ≤ sizeLine; decide), fun p np => ?_⟩
      have e : step o (.chance x y) = (o, [-1]) := by
        show (o, if isThing o x = false ∨ isThing o y = false ∨ x = y then _ else _) = _
        rw [if_pos (two_false c')]
      rw [e] at k
      exact k _ p (ans_same (same_upd np) hO np upd_same)
/-! ### both -/
abbrev sBoth : Stmt := topS 32
theorem scBoth : FnScope ["order", "one", "second", "third", "rows"] ["order", "one", "second", "third"] (defScope sBoth) := ⟨rfl, rfl, rfl, by decide +kernel, rfl, by decide +kernel, by decide +kernel⟩
theorem c_both (B : Bn mg) (Tw : Cal P w K mg base "are_two" 2 ["order", "one", "other"] (spTwo C)) (Al : Cal P w K mg base "all_rows" 2 ["order"] (spAll C)) (Sh : Cal P w K mg base "share" 2 ["upper", "lower"] spShare)
    (Ma : Cal P w K mg base "many_ahead" 2 ["rows", "one", "others"] spMany) (D : DefX K mg "both" sBoth ["order", "one", "second", "third"]) : Cal P w K mg base "both" 3 ["order", "one", "second", "third"] (spC C (R3 .both)) := by
  refine D.cal fun f fd F => ?_
  refine F.ok scBoth (fun vs H Q E h => ?_) (fun cdv A outer s H vs Q E hr h => ?_)
  · obtain ⟨a, t, o, ws, c, rfl, ⟨x, y, z, rfl, _⟩, _⟩ := h
    rfl
  · obtain ⟨a, t, o, ws, c, rfl, ⟨x, y, z, rfl, rfl⟩, hO, g, hl, k⟩ := h
    have nd := scBoth.nd
    refine ⟨_, pss_cons (ps_if (PW.pt (pw_or (pt_not (pt_val (pe_cal Tw hr (by rfl) (pa_cons (pv 0) (pa_cons (pv 1) (pa_cons (pv 2) pa_nil)))))) (pw_or1 (pt_not (pt_val (pe_cal Tw hr (by rfl) (pa_cons (pv 0) (pa_cons (pv 1) (pa_cons (pv 3) pa_nil))))))))) (pss_one (ps_ret (pe_lst (pa_cons (pe_un un_neg pe_int) pa_nil)))) pss_nil)
      (pss_cons (ps_set (i := 4) nd rfl (.inl rfl) (pe_cal Al hr (by rfl) (pa_cons (pv 0) pa_nil)))
      (pss_one (ps_ret (pe_cal Sh hr (by rfl) (pa_cons (pe_cal Ma hr (by rfl) (pa_cons (pv 4) (pa_cons (pv 1) (pa_cons (pe_lst (pa_cons (pv 2) (pa_cons (pv 3) pa_nil))) pa_nil)))) (pa_cons (pe_callB call_len_seq (by rfl) B.len PySem.boot_len (pa_cons (pv 4) pa_nil)) pa_nil)))))), ?_⟩
    have bad : (isThing o x = false ∨ isThing o y = false ∨ isThing o z = false ∨ x = y ∨ x = z) → step o (.both x y z) = (o, [-1]) := fun h => by
      show (o, if isThing o x = false ∨ isThing o y = false ∨ isThing o z = false ∨ x = y ∨ x = z then _ else _) = _
      rw [if_pos h]
    refine ⟨_, rfl, _, rfl, _, rfl, a, t, o, x, y, rfl, hO, _, rfl, ?_⟩
    by_cases c : two o x y = true
    · refine Toy.if_false_of (by rw [c]; rfl) ?_
      obtain ⟨hx, hy, ne⟩ := two_true c
      refine ⟨_, rfl, _, rfl, _, rfl, a, t, o, x, z, rfl, hO, _, rfl, ?_⟩
      by_cases d : two o x z = true
      · refine Toy.if_false_of (by rw [d]; rfl) ?_
        obtain ⟨_, hz, nz⟩ := two_true d
        have es : step o (.both x y z) = (o, Or01.fraction (Or01.part (Or01.rows o) fun r => decide (place r x < place r y) && decide (place r x < place r z))) := by
          show (o, if isThing o x = false ∨ isThing o y = false ∨ isThing o z = false ∨ x = y ∨ x = z then _ else _) = _
          rw [if_neg]
          rw [← isThing_mem] at hx hy hz
          rw [hx, hy, hz]
          simp [ne, nz]
        rw [es] at k
        refine ⟨_, rfl, a, t, o, rfl, hO, g, fun H1 pr s1 hR => ?_⟩
        have hR' := hR.rows
        obtain ⟨qr, hr1, hr2⟩ := id hR'
        refine ⟨_, rfl, _, rfl, _, rfl, _, rfl, (by show 2 ≤ sizeLine; decide), fun po npo => ?_⟩
        have s2 : Same H1 (upd H1 po (.lst (nV [y, z]))) := same_upd npo
        refine ⟨pr, po, Or01.rows o, x, [y, z], rfl, hR'.same s2, upd_same, by simp, fun r hr' => ⟨row_mem hr' hx, fun v hv => ?_⟩, fun H3 s3 => ?_⟩
        · rcases List.mem_cons.mp hv with rfl | hv
          · exact row_mem hr' hy
          · rw [List.mem_singleton.mp hv]; exact row_mem hr' hz
        have s13 := s2.trans s3
        refine ⟨_, rfl, pr, _, rfl, .inl (SqL.of (s13 _ _ hr1)), ?_⟩
        have hp := Oo.rows_pos g
        have hle := Oo.rows_len g
        refine ⟨((Or01.rows o).filter (aheadAll x [y, z])).length, (Or01.rows o).length, ?_, hp, by omega, fun H4 p s4 np ep => ?_⟩
        · rw [ref_len hr2]
          rfl
        · refine k _ p (ans_same ((s1.trans s13).trans s4) hO ((s1.trans s13).free np) ?_)
          rw [ep, nV_iV]
          have ef : Or01.fraction (Or01.part (Or01.rows o) fun r => decide (place r x < place r y) && decide (place r x < place r z)) = Or01.ints (shareN ((Or01.rows o).filter (aheadAll x [y, z])).length (Or01.rows o).length) := by
            rw [Oo.fraction_part _ hp, ahead_two]
          rw [ef]
      · have d' : two o x z = false := by simpa using d
        refine Toy.if_true_of (by rw [d']; rfl) ⟨_, rfl, (by show 1 ≤ sizeLine; decide), fun p np => ?_⟩
        rw [bad (by rcases two_false d' with h | h | h; exact .inl h; exact .inr (.inr (.inl h)); exact .inr (.inr (.inr (.inr h))))] at k
        exact k _ p (ans_same (same_upd np) hO np upd_same)
    · have c' : two o x y = false := by simpa using c
      refine Toy.if_true_of (by rw [c']; rfl) ?_
      refine Toy.if_true_of rfl ⟨_, rfl, (by show 1 ≤ sizeLine; decide), fun p np => ?_⟩
      rw [bad (by rcases two_false c' with h | h | h; exact .inl h; exact .inr (.inl h); exact .inr (.inr (.inr (.inl h))))] at k
      exact k _ p (ans_same (same_upd np) hO np upd_same)
/-! ### average -/
abbrev sAverage : Stmt := topS 33
theorem scAverage : FnScope ["rows", "thing", "size"] ["rows", "thing", "size"] (defScope sAverage) := ⟨rfl, rfl, rfl, by decide +kernel, rfl, by decide +kernel, by decide +kernel⟩
def spAverage : Sp := fun vs H Q _ => ∃ (p : Addr) (rs : List (List Nat)) (x n : Nat), vs = [.ref p, .int (x : Nat), .int (n : Nat)] ∧ RowsAt H p rs ∧ n ≤ 7 ∧ (∀ r ∈ rs, x ∈ r ∧ place r x < n) ∧ 0 < rs.length ∧ rs.length ≤ 900000 ∧
  ∀ (H' : Hp) (q : Addr), Same H H' → H q = none → H' q = some (.lst (nV (shareN (psum (spreadN rs x n)) rs.length))) → Q (.ref q) H'
theorem c_average (B : Bn mg) (Sh : Cal P w K mg base "share" 2 ["upper", "lower"] spShare) (Ps : Cal P w K mg base "place_sum" 1 ["places"] spPsum) (Pl : Cal P w K mg base "places_of" 1 ["rows", "thing", "many"] spPlaces)
    (D : DefX K mg "average" sAverage ["rows", "thing", "size"]) : Cal P w K mg base "average" 3 ["rows", "thing", "size"] spAverage := by
  refine D.cal fun f fd F => ?_
  refine F.ok scAverage (fun vs H Q E h => ?_) (fun cdv A outer s H vs Q E hr h => ?_)
  · obtain ⟨p, rs, x, n, rfl, _⟩ := h
    rfl
  · obtain ⟨p, rs, x, n, rfl, hR, hn, hm, hp, hle, k⟩ := h
    have hr1 := hr.mono (j := 1) (by decide)
    refine ⟨_, pss_one (ps_ret (pe_cal Sh hr (by rfl) (pa_cons (pe_cal Ps hr1 (by rfl) (pa_cons (pe_cal Pl hr1 (by rfl) (pa_cons (pv 0) (pa_cons (pv 1) (pa_cons (pv 2) pa_nil)))) pa_nil)) (pa_cons (pe_callB call_len_seq (by rfl) B.len PySem.boot_len (pa_cons (pv 0) pa_nil)) pa_nil)))), ?_⟩
    obtain ⟨qr, h1, h2⟩ := id hR
    refine ⟨_, rfl, _, rfl, _, rfl, p, rs, x, n, rfl, hR, hn, hm, fun H1 q s1 nq eq => ?_⟩
    refine ⟨q, _, rfl, eq, by rw [spread_len]; omega, fun H2 s2 => ?_⟩
    have s12 := s1.trans s2
    refine ⟨_, rfl, p, _, rfl, .inl (SqL.of (s12 _ _ h1)), ?_⟩
    refine ⟨psum (spreadN rs x n), rs.length, ?_, hp, hle, fun H3 q3 s3 nq3 eq3 => ?_⟩
    · rw [ref_len h2]
      rfl
    · exact k H3 q3 (s12.trans s3) (s12.free nq3) eq3
/-! ### spread -/
abbrev sSpread : Stmt := topS 34
theorem scSpread : FnScope ["order", "thing", "rows"] ["order", "thing"] (defScope sSpread) := ⟨rfl, rfl, rfl, by decide +kernel, rfl, by decide +kernel, by decide +kernel⟩
theorem c_spread (T : OrdX K mg C) (It : Cal P w K mg base "is_thing" 1 ["order", "thing"] (spIsTh C)) (Al : Cal P w K mg base "all_rows" 2 ["order"] (spAll C)) (Pl : Cal P w K mg base "places_of" 1 ["rows", "thing", "many"] spPlaces)
    (Av : Cal P w K mg base "average" 3 ["rows", "thing", "size"] spAverage) (D : DefX K mg "spread" sSpread ["order", "thing"]) : Cal P w K mg base "spread" 4 ["order", "thing"] (spC C (R1 .spread)) := by
  refine D.cal fun f fd F => ?_
  refine F.ok scSpread (fun vs H Q E h => ?_) (fun cdv A outer s H vs Q E hr h => ?_)
  · obtain ⟨a, t, o, ws, c, rfl, ⟨x, rfl, _⟩, _⟩ := h
    rfl
  · obtain ⟨a, t, o, ws, c, rfl, ⟨x, rfl, rfl⟩, hO, g, hl, k⟩ := h
    have nd := scSpread.nd
    have hr1 := hr.mono (j := 1) (by decide)
    have hr2 := hr.mono (j := 2) (by decide)
    refine ⟨_, pss_cons (ps_if (pt_not (pt_val (pe_cal It hr1 (by rfl) (pa_cons (pv 0) (pa_cons (pv 1) pa_nil))))) (pss_one (ps_ret (pe_lst (pa_cons (pe_un un_neg pe_int) pa_nil)))) pss_nil)
      (pss_cons (ps_set (i := 2) nd rfl (.inl rfl) (pe_cal Al hr2 (by rfl) (pa_cons (pv 0) pa_nil)))
      (pss_one (ps_ret (pe_op op_cat (pe_cal Pl hr1 (by rfl) (pa_cons (pv 2) (pa_cons (pv 1) (pa_cons (pe_fld (pv 0) rfl) pa_nil)))) (pe_cal Av hr (by rfl) (pa_cons (pv 2) (pa_cons (pv 1) (pa_cons (pe_fld (pv 0) rfl) pa_nil)))))))), ?_⟩
    refine ⟨_, rfl, _, rfl, a, t, o, x, rfl, hO, _, rfl, ?_⟩
    by_cases c : isThing o x = true
    · refine Toy.if_false_of (by rw [c]; rfl) ?_
      have hx := isThing_mem.mp c
      have es : step o (.spread x) = (o, Or01.ints (Or01.spread o x) ++ Or01.fraction (Or01.average o x)) := by
        show (o, if isThing o x = false then _ else _) = _
        rw [if_neg (by rw [c]; decide)]
      rw [es] at k
      have hp := Oo.rows_pos g
      have hle := Oo.rows_len g
      have h7 := g.most
      refine ⟨_, rfl, a, t, o, rfl, hO, g, fun H1 pr s1 hR => ?_⟩
      have hR' := hR.rows
      have hmem : ∀ r ∈ Or01.rows o, x ∈ r ∧ place r x < o.many := fun r hr' => ⟨row_mem hr' hx, Oo.place_rows hr' hx⟩
      obtain ⟨dx, h1, h2⟩ := id hO
      refine ⟨_, rfl, _, rfl, _, rfl, a, C, dx, _, _, rfl, s1 _ _ h1, T.c.cl, T.nM, ordF_many _ _, pr, Or01.rows o, x, o.many, rfl, hR', h7, hmem, fun H2 q2 s2 nq2 eq2 => ?_⟩
      refine ⟨_, rfl, _, rfl, _, rfl, a, C, dx, _, _, rfl, (s1.trans s2) _ _ h1, T.c.cl, T.nM, ordF_many _ _, pr, Or01.rows o, x, o.many, rfl, hR'.same s2, h7, hmem, hp, by omega, fun H3 q3 s3 nq3 eq3 => ?_⟩
      refine ⟨q2, q3, _, _, rfl, rfl, s3 _ _ eq2, eq3, ?_, fun p np => ?_⟩
      · rw [nV_len, nV_len, spread_len, sizeLine_eq]
        show o.many + 2 ≤ _
        omega
      · have s123 := (s1.trans s2).trans s3
        refine k _ p (ans_same (s123.trans (same_upd np)) hO (s123.free np) ?_)
        rw [upd_same, Oo.fraction_average g hx, Oo.spread_eq, ← ints_append, ← nV_iV]
        unfold nV
        rw [List.map_append]
    · have c' : isThing o x = false := by simpa using c
      refine Toy.if_true_of (by rw [c']; rfl) ⟨_, rfl, (by show 1 ≤ sizeLine; decide), fun p np => ?_⟩
      have e : step o (.spread x) = (o, [-1]) := by
        show (o, if isThing o x = false then _ else _) = _
        rw [if_pos c']
      rw [e] at k
      exact k _ p (ans_same (same_upd np) hO np upd_same)
/-! ### is_below -/
abbrev sIsB : Stmt := topS 39
theorem scIsB : FnScope ["order", "one", "other"] ["order", "one", "other"] (defScope sIsB) := ⟨rfl, rfl, rfl, by decide +kernel, rfl, by decide +kernel, by decide +kernel⟩
theorem c_isb (It : Cal P w K mg base "is_thing" 1 ["order", "thing"] (spIsTh C)) (Bl : Cal P w K mg base "lies_below" 2 ["order", "one", "other"] (spBelow C)) (D : DefX K mg "is_below" sIsB ["order", "one", "other"]) : Cal P w K mg base "is_below" 3 ["order", "one", "other"] (spC C (R2' .is)) := by
  refine D.cal fun f fd F => ?_
  refine F.ok scIsB (fun vs H Q E h => ?_) (fun cdv A outer s H vs Q E hr h => ?_)
  · obtain ⟨a, t, o, ws, c, rfl, ⟨x, y, rfl, _⟩, _⟩ := h
    rfl
  · obtain ⟨a, t, o, ws, c, rfl, ⟨x, y, rfl, rfl⟩, hO, g, hl, k⟩ := h
    have hr1 := hr.mono (j := 1) (by decide)
    refine ⟨_, pss_cons (ps_if (PW.pt (pw_or (pt_not (pt_val (pe_cal It hr1 (by rfl) (pa_cons (pv 0) (pa_cons (pv 1) pa_nil))))) (pw_or1 (pt_not (pt_val (pe_cal It hr1 (by rfl) (pa_cons (pv 0) (pa_cons (pv 2) pa_nil)))))))) (pss_one (ps_ret (pe_lst (pa_cons (pe_un un_neg pe_int) pa_nil)))) pss_nil)
      (pss_cons (ps_if (pt_val (pe_cal Bl hr (by rfl) (pa_cons (pv 0) (pa_cons (pv 1) (pa_cons (pv 2) pa_nil))))) (pss_one (ps_ret (pe_lst (pa_cons pe_int pa_nil)))) pss_nil)
      (pss_cons (ps_if (pt_val (pe_cal Bl hr (by rfl) (pa_cons (pv 0) (pa_cons (pv 2) (pa_cons (pv 1) pa_nil))))) (pss_one (ps_ret (pe_lst (pa_cons pe_int pa_nil)))) pss_nil)
      (pss_one (ps_ret (pe_lst (pa_cons pe_int pa_nil)))))), ?_⟩
    refine ⟨_, rfl, _, rfl, a, t, o, x, rfl, hO, _, rfl, ?_⟩
    by_cases c : isThing o x = true
    · refine Toy.if_false_of (by rw [c]; rfl) ?_
      have hx := isThing_mem.mp c
      refine ⟨_, rfl, _, rfl, a, t, o, y, rfl, hO, _, rfl, ?_⟩
      by_cases d : isThing o y = true
      · refine Toy.if_false_of (by rw [d]; rfl) ?_
        have hy := isThing_mem.mp d
        have es : step o (.is x y) = (o, Or01.ints [if below o x y = true then 1 else if below o y x = true then 2 else 0]) := by
          show (o, if isThing o x = false ∨ isThing o y = false then _ else _) = _
          rw [if_neg (by rw [c, d]; simp)]
        rw [es] at k
        refine ⟨_, rfl, _, rfl, _, rfl, a, t, o, x, y, rfl, hO, g, hx, fun H1 s1 => ⟨_, rfl, ?_⟩⟩
        by_cases b : below o x y = true
        · refine Toy.if_true_of b ⟨(by show 1 ≤ sizeLine; decide), fun p np => ?_⟩
          rw [if_pos b] at k
          exact k _ p (ans_same (s1.trans (same_upd np)) hO (s1.free np) upd_same)
        · refine Toy.if_false_of (by simpa using b) ?_
          rw [if_neg b] at k
          refine ⟨_, rfl, _, rfl, _, rfl, a, t, o, y, x, rfl, hO.same s1, g, hy, fun H2 s2 => ⟨_, rfl, ?_⟩⟩
          have s12 := s1.trans s2
          by_cases b2 : below o y x = true
          · refine Toy.if_true_of b2 ⟨(by show 1 ≤ sizeLine; decide), fun p np => ?_⟩
            rw [if_pos b2] at k
            exact k _ p (ans_same (s12.trans (same_upd np)) hO (s12.free np) upd_same)
          · refine Toy.if_false_of (by simpa using b2) ⟨(by show 1 ≤ sizeLine; decide), fun p np => ?_⟩
            rw [if_neg b2] at k
            exact k _ p (ans_same (s12.trans (same_upd np)) hO (s12.free np) upd_same)
      · have d' : isThing o y = false := by simpa using d
        refine Toy.if_true_of (by rw [d']; rfl) ⟨_, rfl, (by show 1 ≤ sizeLine; decide), fun p np => ?_⟩
        have e : step o (.is x y) = (o, [-1]) := by
          show (o, if isThing o x = false ∨ isThing o y = false then _ else _) = _
          rw [if_pos (.inr d')]
        rw [e] at k
        exact k _ p (ans_same (same_upd np) hO np upd_same)
    · have c' : isThing o x = false := by simpa using c
      refine Toy.if_true_of (by rw [c']; rfl) ?_
      refine Toy.if_true_of rfl ⟨_, rfl, (by show 1 ≤ sizeLine; decide), fun p np => ?_⟩
      have e : step o (.is x y) = (o, [-1]) := by
        show (o, if isThing o x = false ∨ isThing o y = false then _ else _) = _
        rw [if_pos (.inl c')]
      rw [e] at k
      exact k _ p (ans_same (same_upd np) hO np upd_same)
/-! ### next_pairs -/
abbrev sNextC : Stmt := topS 37
theorem scNextC : FnScope ["order", "pairs", "found", "one", "other"] ["order"] (defScope sNextC) := ⟨rfl, rfl, rfl, by decide +kernel, rfl, by decide +kernel, by decide +kernel⟩
theorem next_len {o : Order} (h7 : o.many ≤ 7) : (Or01.next o).length ≤ 100 := by
  rw [next_eq]
  have := flat_le (f := fun x => ((things o).filter (nextP o x)).map fun y => (x, y)) (m := 7) (things o) (fun x _ => by
    show (((things o).filter (nextP o x)).map fun y => (x, y)).length ≤ 7
    rw [List.length_map]
    have := List.length_filter_le (nextP o x) (things o)
    rw [Oo.things_len] at this
    omega)
  rw [Oo.things_len] at this
  omega
theorem c_next (B : Bn mg) (Np : Cal P w K mg base "next_pairs_of" 3 ["order"] (spNextP C)) (D : DefX K mg "next_pairs" sNextC ["order"]) : Cal P w K mg base "next_pairs" 4 ["order"] (spC C (R0 .next)) := by
  refine D.cal fun f fd F => ?_
  refine F.ok scNextC (fun vs H Q E h => ?_) (fun cdv A outer s H vs Q E hr h => ?_)
  · obtain ⟨a, t, o, ws, c, rfl, ⟨rfl, _⟩, _⟩ := h
    rfl
  · obtain ⟨a, t, o, ws, c, rfl, ⟨rfl, rfl⟩, hO, g, hl, k⟩ := h
    have nd := scNextC.nd
    refine ⟨_, pss_cons (ps_set (i := 1) nd rfl (.inl rfl) (pe_cal Np hr (by rfl) (pa_cons (pv 0) pa_nil)))
      (pss_cons (ps_set (i := 2) nd rfl (.inl rfl) (pe_lst (pa_cons (pe_callB call_len_seq (by rfl) B.len PySem.boot_len (pa_cons (pv 1) pa_nil)) pa_nil)))
      (pss_cons (ps_for PassesOwn.never rfl (pi_list (pv 1)) (pg_tup rfl (pgs_cons (pg_name (i := 3) nd rfl (.inl rfl)) (pgs_cons (pg_name (i := 4) nd rfl (.inl rfl)) pgs_nil)))
        (pss_cons (ps_expr (pe_bm PySem.F.plainAttrs_list PySem.F.slot_list_append PySem.F.type_list_append mt_append (pv 2) (pa_cons (pv 3) pa_nil)))
        (pss_one (ps_expr (pe_bm PySem.F.plainAttrs_list PySem.F.slot_list_append PySem.F.type_list_append mt_append (pv 2) (pa_cons (pv 4) pa_nil))))))
      (pss_one (ps_ret (pv 2))))), ?_⟩
    refine ⟨_, rfl, a, t, o, rfl, hO, g, fun H1 pp s1 hP => ?_⟩
    obtain ⟨qs, h1, h2⟩ := hP.pairs
    refine ⟨_, rfl, pp, _, rfl, .inl (SqL.of h1), (by show 1 ≤ sizeLine; decide), fun pf nf => ?_⟩
    have nfH := s1.free nf
    refine ⟨_, rfl, pp, rfl, ⟨_, SqL.of ((same_upd nf) _ _ h1)⟩, for_list (K := K) (a := pp) (xs := qs.map V.ref) (fun i σ H' => ∃ (y3 y4 : Option V), σ = [some (.ref a), some (.ref pp), some (.ref pf), y3, y4] ∧ Same H1 H' ∧ H' pf = some (.lst (nV ((Or01.next o).length :: ((Or01.next o).take i).flatMap fun p => [p.1, p.2]))))
      ⟨none, none, rfl, same_upd nf, by rw [upd_same, ref_len h2]; rfl⟩ (fun i σ H' _ ⟨_, _, _, q, _⟩ => SqL.of (q _ _ h1)) ?_ ?_⟩
    · rintro i y σ H2 hi ⟨y3, y4, rfl, s2, ef⟩
      obtain ⟨q, hq, rfl⟩ := ref_get hi
      obtain ⟨⟨x, v⟩, hz, eq⟩ := OX.paired_get h2 hq
      have hn := next_len (o := o) g.most
      have hl2 : (((Or01.next o).take i).flatMap fun p => [p.1, p.2]).length ≤ 200 := by
        have := flat_le (f := fun p : Nat × Nat => [p.1, p.2]) (m := 2) ((Or01.next o).take i) (fun _ _ => Nat.le_refl _)
        rw [List.length_take] at this
        omega
      refine ⟨q, _, rfl, SqT.of (s2 _ _ eq), rfl, _, _, rfl, _, _, rfl, rfl, ?_⟩
      refine ⟨_, rfl, .inl ⟨rfl, _, SqL.of ef⟩, _, rfl, pf, _, _, rfl, rfl, ef, small (by rw [nV_len, List.length_cons]; omega), ?_⟩
      refine ⟨_, rfl, .inl ⟨rfl, _, SqL.of upd_same⟩, _, rfl, pf, _, _, rfl, rfl, upd_same, small (by rw [List.length_append, List.length_singleton, nV_len, List.length_cons]; omega), ?_⟩
      refine ⟨_, _, rfl, (s2.put nf).put nf, ?_⟩
      rw [upd_same, take_more hz, List.flatMap_append, List.flatMap_cons, List.flatMap_nil, List.append_nil]
      show some (HO.lst ((nV _ ++ [V.int (x : Nat)]) ++ [V.int (v : Nat)])) = some (HO.lst (nV (((Or01.next o).length :: (((Or01.next o).take i).flatMap fun p => [p.1, p.2])) ++ [x, v])))
      rw [← nV_snoc, ← nV_snoc, List.append_assoc]
      rfl
    · rintro σ H2 ⟨y3, y4, rfl, s2, ef⟩
      rw [List.length_map, paired_len h2, List.take_length] at ef
      refine ⟨_, rfl, k H2 pf (ans_same (s1.trans s2) hO nfH ?_)⟩
      rw [ef, nV_iV]
      rfl
end
end OW
namespace OW
open PySem PySem.Spec PyProof.Rows L2 OX
open Or01 (Order things below place isThing step)
open Oo (Good Bel mem_things shareN spreadN psum sumsN SLt)

/-! ### sorted pairs -/
def kOf (H : Hp) : V → Int × Int
  | .ref t => match H t with
    | some (.tup [.int i, .int j]) => (i, j)
    | _ => (0, 0)
  | _ => (0, 0)
theorem kOf_pair {H : Hp} {q : Addr} {z : Nat × Nat} (e : H q = some (.tup (pV z))) : kOf H (.ref q) = ((z.1 : Int), (z.2 : Int)) := by
  unfold kOf
  simp only [e, pV]
def prOf (H : Hp) (q : Addr) : Nat × Nat := ((kOf H (.ref q)).1.toNat, (kOf H (.ref q)).2.toNat)
theorem prOf_pair {H : Hp} {q : Addr} {z : Nat × Nat} (e : H q = some (.tup (pV z))) : prOf H q = z := by
  unfold prOf
  rw [kOf_pair e]
  show (((z.1 : Nat) : Int).toNat, ((z.2 : Nat) : Int).toNat) = z
  rw [Int.toNat_natCast, Int.toNat_natCast]
def adr : V → Addr
  | .ref q => q
  | _ => 0
theorem refs_of_perm {ys : List V} {ts : List Addr} (h : ys.Perm (ts.map V.ref)) : ∃ us : List Addr, us.Perm ts ∧ ys = us.map V.ref := by
  refine ⟨ys.map adr, ?_, ?_⟩
  · have := h.map adr
    rw [List.map_map] at this
    have e : (adr ∘ V.ref) = id := rfl
    rw [e, List.map_id] at this
    exact this
  · rw [List.map_map]
    have : ∀ l : List V, (∀ y ∈ l, ∃ q, y = V.ref q) → l = l.map (V.ref ∘ adr) := by
      intro l
      induction l with
      | nil => intro _; rfl
      | cons y l ih =>
        intro hl
        obtain ⟨q, rfl⟩ := hl y List.mem_cons_self
        rw [List.map_cons, ← ih fun z hz => hl z (List.mem_cons_of_mem _ hz)]
        rfl
    refine this ys fun y hy => ?_
    obtain ⟨q, _, e⟩ := List.mem_map.mp (h.subset hy)
    exact ⟨q, e.symm⟩
theorem paired_map {F : Addr → Nat × Nat → Prop} {f : Addr → Nat × Nat} (hf : ∀ q z, F q z → f q = z) : ∀ {ts : List Addr} {zs : List (Nat × Nat)}, Paired F ts zs → ts.map f = zs
  | _, _, .nil => rfl
  | _, _, .cons r t => by rw [List.map_cons, hf _ _ r, paired_map hf t]
theorem paired_left {α β : Type} {F : α → β → Prop} : ∀ {l : List α} {m : List β}, Paired F l m → ∀ a ∈ l, ∃ b ∈ m, F a b
  | _, _, .nil, _, h => by cases h
  | _, _, .cons r t, a, h => by
    rcases List.mem_cons.mp h with rfl | h
    · exact ⟨_, List.mem_cons_self, r⟩
    · obtain ⟨b, hb, e⟩ := paired_left t a h
      exact ⟨b, List.mem_cons_of_mem _ hb, e⟩
theorem ints_flatMap {α : Type} (f : α → List Nat) : ∀ l : List α, Or01.ints (l.flatMap f) = l.flatMap fun x => Or01.ints (f x)
  | [] => rfl
  | a :: l => by rw [List.flatMap_cons, List.flatMap_cons, ints_append, ints_flatMap f l]
theorem sums_len (o : Order) : (sumsN o).length = o.many := by unfold sumsN; rw [List.length_map, Oo.things_len]
theorem sums_snd (o : Order) : (sumsN o).map (·.2) = things o := by
  unfold sumsN
  rw [List.map_map]
  exact List.map_id _
/-- the sorted list, in order strictly -/
theorem sorted_sums {o : Order} {H : Hp} {ts us : List Addr} (hp : Paired (fun q z => H q = some (.tup (pV z))) ts (sumsN o)) (hu : us.Perm ts) (hs : (us.map V.ref).Pairwise fun x y => ltP (kOf H) y x = false) :
    (us.map (prOf H)).Perm (sumsN o) ∧ (us.map (prOf H)).Pairwise SLt ∧ ∀ q ∈ us, H q = some (.tup (pV (prOf H q))) := by
  have e1 : ts.map (prOf H) = sumsN o := paired_map (fun q z e => prOf_pair e) hp
  have hper : (us.map (prOf H)).Perm (sumsN o) := by rw [← e1]; exact hu.map _
  have at_ : ∀ q ∈ us, H q = some (.tup (pV (prOf H q))) := fun q hq => by
    obtain ⟨z, _, e⟩ := paired_left hp q (hu.subset hq)
    rw [prOf_pair e]
    exact e
  refine ⟨hper, ?_, at_⟩
  have nd2 : ((us.map (prOf H)).map (·.2)).Nodup := by
    have := (hper.map (·.2)).symm
    rw [sums_snd] at this
    exact this.nodup (Oo.things_nodup o)
  rw [List.map_map] at nd2
  unfold List.Nodup at nd2
  rw [List.pairwise_map] at nd2 hs
  rw [List.pairwise_map]
  refine (hs.and nd2).imp_of_mem ?_
  rintro p q hp' hq' ⟨h1, h2⟩
  have ep := kOf_pair (at_ p hp')
  have eq := kOf_pair (at_ q hq')
  have h1' : SrtO.lexB (kOf H (.ref q)) (kOf H (.ref p)) = false := h1
  rw [SrtO.lexB_no, ep, eq] at h1'
  have h2' : (prOf H p).2 ≠ (prOf H q).2 := h2
  unfold SLt
  simp only at h1'
  omega
section
variable {P : Program} {w : World} {K : PySem.W.Frag} {mg : Str → Option Value} {base : Heap} {C : Addr}
/-! ### likely -/
abbrev sLikely : Stmt := topS 38
theorem scLikely : FnScope ["order", "rows", "thing", "sums", "found", "total"] ["order"] (defScope sLikely) := ⟨rfl, rfl, rfl, by decide +kernel, rfl, by decide +kernel, by decide +kernel⟩
theorem c_likely (T : OrdX K mg C) (B : Bn mg) (Al : Cal P w K mg base "all_rows" 2 ["order"] (spAll C)) (Th : Cal P w K mg base "things_of" 1 ["order"] (spThings C)) (Sh : Cal P w K mg base "share" 2 ["upper", "lower"] spShare)
    (Ps : Cal P w K mg base "place_sum" 1 ["places"] spPsum) (Pl : Cal P w K mg base "places_of" 1 ["rows", "thing", "many"] spPlaces) (D : DefX K mg "likely" sLikely ["order"]) : Cal P w K mg base "likely" 3 ["order"] (spC C (R0 .likely)) := by
  refine D.cal fun f fd F => ?_
  refine F.ok scLikely (fun vs H Q E h => ?_) (fun cdv A outer s H vs Q E hr h => ?_)
  · obtain ⟨a, t, o, ws, c, rfl, ⟨rfl, _⟩, _⟩ := h
    rfl
  · obtain ⟨a, t, o, ws, c, rfl, ⟨rfl, rfl⟩, hO, g, hl, k⟩ := h
    have nd := scLikely.nd
    have h7 := g.most
    have hr1 := hr.mono (j := 1) (by decide)
    refine ⟨_, pss_cons (ps_set (i := 1) nd rfl (.inr rfl) (pe_cal Al hr (by rfl) (pa_cons (pv 0) pa_nil)))
      (pss_cons (ps_setLc (i := 3) (own := [("thing", 2)]) (g := gName 2) (tt := tYes) (te := tTup (tCons (tCall spPsum [] E0 (tCons (tCall spPlaces [] E0 (tCons (tVar 1) (tCons (tVar 2) (tCons (tFld K (tVar 0) "many") tNil)))) tNil)) (tCons (tVar 2) tNil))) rfl nd rfl rfl (sw_true rfl rfl rfl (by decide +kernel))
          (pi_list (pe_cal Th hr1 (by rfl) (pa_cons (pv 0) pa_nil))) (blkOk_by (N := ["order", "rows", "thing", "sums", "found", "total"]) (sc := defScope sLikely) (by decide +kernel))
          (fun _ _ _ _ _ => pg_name (i := 2) nd rfl (Or.inl rfl)) (fun _ _ _ _ _ => pts_nil)
          (fun _ _ _ _ _ => pe_tup (pa_cons (pe_cal Ps hr1 (by rfl) (pa_cons (pe_cal Pl hr1 (by rfl) (pa_cons (pv 1) (pa_cons (pv 2) (pa_cons (pe_fld (pv 0) rfl) pa_nil)))) pa_nil)) (pa_cons (pv 2) pa_nil))))
      (pss_cons (ps_set (i := 4) nd rfl (.inl rfl) (pe_lst pa_nil))
      (pss_cons (ps_for PassesOwn.never rfl (pi_list (pe_callB cr_sortedPO (by rfl) B.sorted (by decide +kernel) (pa_cons (pv 3) pa_nil))) (pg_tup rfl (pgs_cons (pg_name (i := 5) nd rfl (.inl rfl)) (pgs_cons (pg_name (i := 2) nd rfl (.inl rfl)) pgs_nil)))
        (pss_one (ps_set (i := 4) nd rfl (.inl rfl) (pe_op op_cat (pe_op op_cat (pv 4) (pe_lst (pa_cons (pv 2) pa_nil))) (pe_cal Sh hr (by rfl) (pa_cons (pv 5) (pa_cons (pe_callB call_len_seq (by rfl) B.len PySem.boot_len (pa_cons (pv 1) pa_nil)) pa_nil)))))))
      (pss_one (ps_ret (pv 4)))))), ?_⟩
    refine ⟨_, rfl, a, t, o, rfl, hO, g, fun H1 pr s1 hR => ?_⟩
    have hR' := hR.rows
    have hp := Oo.rows_pos g
    have hle := Oo.rows_len g
    obtain ⟨qr, hr1', hr2⟩ := id hR'
    refine ⟨_, rfl, a, t, o, rfl, hO.same s1, h7, fun H2 pt s2 npt ept => ?_⟩
    have hO2 := hO.same (s1.trans s2)
    refine ⟨pt, rfl, ⟨_, SqL.of ept⟩, fun Dl nDl => lc_list (K := K) (a := pt) (xs := nV (things o)) (fun m H' => Same H2 H' ∧ ∃ ts, ObjsAt pairO H H' Dl ts ((sumsN o).take m))
      ⟨same_upd nDl, [], .nil upd_same⟩ (fun m H' _ ⟨q, _⟩ => SqL.of (q _ _ ept)) ?_ ?_⟩
    · rintro m v H3 hm ⟨s3, ts, hT⟩
      obtain ⟨x, hx, rfl⟩ := nV_get hm
      have hxt := List.mem_of_getElem? hx
      have hmem : ∀ r ∈ Or01.rows o, x ∈ r ∧ place r x < o.many := fun r hr' => ⟨row_mem hr' hxt, Oo.place_rows hr' hxt⟩
      obtain ⟨dx, h1, h2⟩ := hO2.same s3
      refine ⟨rfl, ?_⟩
      refine ⟨_, rfl, _, rfl, _, rfl, a, C, dx, _, _, rfl, h1, T.c.cl, T.nM, ordF_many _ _, pr, Or01.rows o, x, o.many, rfl, hR'.same (s2.trans s3), h7, hmem, fun H4 q4 s4 nq4 eq4 => ?_⟩
      refine ⟨q4, _, rfl, eq4, by rw [spread_len]; omega, fun H5 s5 => ?_⟩
      refine ⟨_, rfl, (by show 2 ≤ sizeLine; decide), fun q nq => ?_⟩
      have s345 := s4.trans s5
      have hT5 := hT.same s345
      have s6 : Same H5 (upd H5 q (.tup (pV (psum (spreadN (Or01.rows o) x o.many), x)))) := same_upd nq
      have hT6 := hT5.same s6
      have hsx : (sumsN o)[m]? = some (psum (spreadN (Or01.rows o) x o.many), x) := by
        unfold sumsN
        rw [List.getElem?_map, hx]
        rfl
      refine ⟨_, hT6.1, ?_, ((s3.trans s345).trans s6).put nDl, ts ++ [q], ?_⟩
      · rw [List.length_map, hT6.len, List.length_take]
        have := sums_len o
        exact small (by omega)
      · rw [take_more hsx]
        refine hT6.put (fun e => ?_) (((((s1.trans s2).trans s3).trans s4).trans s5).free nq) upd_same
        rw [e] at nq
        rw [hT5.1] at nq
        cases nq
    rintro H3 ⟨s3, ts, hT⟩
    rw [nV_len, Oo.things_len, ← sums_len o, List.take_length] at hT
    have s13 := (s1.trans s2).trans s3
    -- found = []
    refine ⟨Nat.zero_le _, fun f0 nf0 => ?_⟩
    have s4 : Same H3 (upd H3 f0 (.lst [])) := same_upd nf0
    have hT4 := hT.same s4
    have hTp : Paired (fun q z => (upd H3 f0 (.lst [])) q = some (.tup (pV z))) ts (sumsN o) := paired_mono (fun q z e => e.2.2) hT4.2
    refine ⟨_, rfl, Dl, ts.map V.ref, kOf (upd H3 f0 (.lst [])), rfl, SqL.of hT4.1, fun x hx => ?_, fun ys ps hsr hst nps => ?_⟩
    · obtain ⟨q, hq, rfl⟩ := List.mem_map.mp hx
      obtain ⟨z, _, e⟩ := paired_left hTp q hq
      exact ⟨q, rfl, by rw [kOf_pair e]; exact e⟩
    obtain ⟨us, hus, rfl⟩ := refs_of_perm hst.perm
    obtain ⟨z1, z2, z3⟩ := sorted_sums hTp hus hsr
    generalize hzs : us.map (prOf (upd H3 f0 (.lst []))) = zs at z1 z2
    have hzl : zs.length = o.many := by rw [z1.length_eq, sums_len]
    have s5 : Same (upd H3 f0 (.lst [])) (upd (upd H3 f0 (.lst [])) ps (.lst (us.map V.ref))) := same_upd nps
    refine ⟨ps, rfl, ⟨_, SqL.of upd_same⟩, for_list (K := K) (a := ps) (xs := us.map V.ref) (fun i σ H' => ∃ (y2 y5 : Option V) (pf : Addr), σ = [some (.ref a), some (.ref pr), y2, some (.ref Dl), some (.ref pf), y5] ∧ Same (upd (upd H3 f0 (.lst [])) ps (.lst (us.map V.ref))) H' ∧ H3 pf = none ∧ H' pf = some (.lst (nV ((zs.take i).flatMap fun y => y.2 :: shareN y.1 (Or01.rows o).length))))
      ⟨none, none, f0, rfl, Same.refl _, nf0, s5 _ _ upd_same⟩ (fun i σ H' _ ⟨_, _, _, _, q, _⟩ => SqL.of (q _ _ upd_same)) ?_ ?_⟩
    · rintro i y σ H6 hi ⟨y2, y5, pf, rfl, s6, npf, ef⟩
      obtain ⟨q, hq, rfl⟩ := ref_get hi
      have eq6 := s6 _ _ (s5 _ _ (z3 q (List.mem_of_getElem? hq)))
      have hz : zs[i]? = some (prOf (upd H3 f0 (.lst [])) q) := by rw [← hzs, List.getElem?_map, hq]; rfl
      generalize prOf (upd H3 f0 (.lst [])) q = z at eq6 hz
      have hfl : ((zs.take i).flatMap fun y => y.2 :: shareN y.1 (Or01.rows o).length).length ≤ 100 := by
        have := flat_le (f := fun y : Nat × Nat => y.2 :: shareN y.1 (Or01.rows o).length) (m := 3) (zs.take i) (fun _ _ => Nat.le_refl _)
        rw [List.length_take] at this
        omega
      have base6 := (s4.trans s5).trans s6
      refine ⟨q, _, rfl, SqT.of eq6, rfl, _, _, rfl, _, _, rfl, rfl, ?_⟩
      refine ⟨_, rfl, _, rfl, (by show 1 ≤ sizeLine; decide), fun p1 np1 => ?_⟩
      refine ⟨pf, p1, _, _, rfl, rfl, (same_upd np1) _ _ ef, upd_same, by rw [nV_len, sizeLine_eq, List.length_singleton]; omega, fun p2 np2 => ?_⟩
      have s7 := (same_upd np1 (o := .lst [.int (z.2 : Nat)])).trans (same_upd np2 (o := .lst (nV ((zs.take i).flatMap fun y => y.2 :: shareN y.1 (Or01.rows o).length) ++ [.int (z.2 : Nat)])))
      have er7 := s7 _ _ (base6 _ _ (s3 _ _ (s2 _ _ hr1')))
      refine ⟨_, rfl, _, rfl, pr, _, rfl, .inl (SqL.of er7), ?_⟩
      refine ⟨z.1, (Or01.rows o).length, by rw [ref_len hr2]; rfl, hp, by omega, fun H8 p3 s8 np3 ep3 => ?_⟩
      refine ⟨p2, p3, _, _, rfl, rfl, s8 _ _ upd_same, ep3, ?_, fun p4 np4 => ?_⟩
      · rw [List.length_append, nV_len, nV_len, List.length_singleton, sizeLine_eq]
        show _ + 1 + 2 ≤ _
        omega
      · have np4' : H3 p4 = none := ((base6.trans s7).trans s8).free np4
        refine ⟨_, _, p4, rfl, ((s6.trans s7).trans s8).trans (same_upd np4), np4', ?_⟩
        rw [upd_same, take_more hz, List.flatMap_append, List.flatMap_cons, List.flatMap_nil, List.append_nil]
        show some (HO.lst ((nV _ ++ [V.int (z.2 : Nat)]) ++ nV _)) = some (HO.lst (nV (_ ++ ([z.2] ++ shareN z.1 (Or01.rows o).length))))
        unfold nV
        rw [List.map_append, List.map_append, List.append_assoc]
        rfl
    · rintro σ H6 ⟨y2, y5, pf, rfl, s6, npf, ef⟩
      rw [List.length_map] at ef
      have ezl : us.length = zs.length := by rw [← hzs, List.length_map]
      rw [ezl, List.take_length] at ef
      have base6 := (s4.trans s5).trans s6
      refine ⟨_, rfl, k H6 pf (ans_same (s13.trans base6) hO (s13.free npf) ?_)⟩
      rw [ef, nV_iV, ints_flatMap]
      have es : (step o .likely).2 = (Or01.likely o).flatMap fun x => (x.1 : Int) :: Or01.fraction x.2 := rfl
      rw [es, Oo.likely_eq g z1 z2]
/-! ### fairest -/
abbrev sFairest : Stmt := topS 35
theorem scFairest : FnScope ["order", "pairs", "rows", "found", "one", "other", "ahead", "off"] ["order"] (defScope sFairest) := ⟨rfl, rfl, rfl, by decide +kernel, rfl, by decide +kernel, by decide +kernel⟩
def q4O (z : Q4) : HO := .tup (q4V z)
def fq (o : Order) (p : Nat × Nat) : Q4 := ((Oo.offO o p : Nat), (p.1 : Nat), (p.2 : Nat), (Oo.aheadN o p : Nat))
theorem open_len (o : Order) (h7 : o.many ≤ 7) : (Or01.open_ o).length ≤ 100 := by
  unfold Or01.open_
  have := flat_le (f := fun x => ((things o).filter fun y => decide (x < y) && (!below o x y && !below o y x)).map fun y => (x, y)) (m := 7) (things o) (fun x _ => by
    show (((things o).filter fun y => decide (x < y) && (!below o x y && !below o y x)).map fun y => (x, y)).length ≤ 7
    rw [List.length_map]
    have := List.length_filter_le (fun y => decide (x < y) && (!below o x y && !below o y x)) (things o)
    rw [Oo.things_len] at this
    omega)
  rw [Oo.things_len] at this
  omega
theorem c_fairest (B : Bn mg) (Op : Cal P w K mg base "open_pairs" 3 ["order"] (spOpen C)) (Al : Cal P w K mg base "all_rows" 2 ["order"] (spAll C)) (Ma : Cal P w K mg base "many_ahead" 2 ["rows", "one", "others"] spMany) (Sh : Cal P w K mg base "share" 2 ["upper", "lower"] spShare)
    (D : DefX K mg "fairest" sFairest ["order"]) : Cal P w K mg base "fairest" 4 ["order"] (spC C (R0 .fairest)) := by
  refine D.cal fun f fd F => ?_
  refine F.ok scFairest (fun vs H Q E h => ?_) (fun cdv A outer s H vs Q E hr h => ?_)
  · obtain ⟨a, t, o, ws, c, rfl, ⟨rfl, _⟩, _⟩ := h
    rfl
  · obtain ⟨a, t, o, ws, c, rfl, ⟨rfl, rfl⟩, hO, g, hl, k⟩ := h
    have nd := scFairest.nd
    have h7 := g.most
    have hr2' := hr.mono (j := 2) (by decide)
    have hu : (A.deeper (envOfC "fairest" (defScope sFairest) s.heap.objs.size f cdv)).units + 64 < cLine := hr.units
    refine ⟨_, pss_cons (ps_set (i := 1) nd rfl (.inl rfl) (pe_cal Op hr (by rfl) (pa_cons (pv 0) pa_nil)))
      (pss_cons (ps_if (pt_cmpR op_eq (pe_callB call_len_seq (by rfl) B.len PySem.boot_len (pa_cons (pv 1) pa_nil)) pe_int (nomark _)) (pss_one (ps_ret (pe_lst (pa_cons (pe_un un_neg pe_int) pa_nil)))) pss_nil)
      (pss_cons (ps_set (i := 2) nd rfl (.inl rfl) (pe_cal Al hr2' (by rfl) (pa_cons (pv 0) pa_nil)))
      (pss_cons (ps_set (i := 3) nd rfl (.inl rfl) (pe_lst pa_nil))
      (pss_cons (ps_for PassesOwn.never rfl (pi_list (pv 1)) (pg_tup rfl (pgs_cons (pg_name (i := 4) nd rfl (.inl rfl)) (pgs_cons (pg_name (i := 5) nd rfl (.inl rfl)) pgs_nil)))
        (pss_cons (ps_set (i := 6) nd rfl (.inl rfl) (pe_cal Ma hr2' (by rfl) (pa_cons (pv 2) (pa_cons (pv 4) (pa_cons (pe_lst (pa_cons (pv 5) pa_nil)) pa_nil)))))
        (pss_one (ps_expr (pe_bm PySem.F.plainAttrs_list PySem.F.slot_list_append PySem.F.type_list_append mt_append (pv 3) (pa_cons
          (pe_tup (pa_cons (pe_callB call_abs (by rfl) B.abs (by decide +kernel) (pa_cons (pe_op op_sub (pe_op op_mul pe_int (pv 6)) (pe_callB call_len_seq (by rfl) B.len PySem.boot_len (pa_cons (pv 2) pa_nil))) pa_nil)) (pa_cons (pv 4) (pa_cons (pv 5) (pa_cons (pv 6) pa_nil))))) pa_nil))))))
      (pss_cons (ps_asg (pe_callB (cr_min4 rfl hu) (by rfl) B.min (by decide +kernel) (pa_cons (pv 3) pa_nil)) (pg_tup rfl (pgs_cons (pg_name (i := 7) nd rfl (.inl rfl)) (pgs_cons (pg_name (i := 4) nd rfl (.inl rfl)) (pgs_cons (pg_name (i := 5) nd rfl (.inl rfl)) (pgs_cons (pg_name (i := 6) nd rfl (.inl rfl)) pgs_nil))))))
      (pss_one (ps_ret (pe_op op_cat (pe_lst (pa_cons (pv 4) (pa_cons (pv 5) pa_nil))) (pe_cal Sh hr2' (by rfl) (pa_cons (pv 6) (pa_cons (pe_callB call_len_seq (by rfl) B.len PySem.boot_len (pa_cons (pv 2) pa_nil)) pa_nil))))))))))), ?_⟩
    refine ⟨_, rfl, a, t, o, rfl, hO, g, fun H1 pp s1 hP => ?_⟩
    obtain ⟨qs, h1, h2⟩ := hP.pairs
    refine ⟨_, rfl, pp, _, rfl, .inl (SqL.of h1), rfl, _, rfl, ?_⟩
    rw [ref_len h2]
    by_cases c : Or01.open_ o = []
    · refine Toy.if_true_of (by rw [c]; rfl) ⟨_, rfl, (by show 1 ≤ sizeLine; decide), fun p np => ?_⟩
      have es : step o .fairest = (o, [-3]) := by
        show (o, match Or01.fairest o with | none => [-3] | some p => Or01.ints [p.1, p.2] ++ Or01.fraction (Or01.chance o p.1 p.2)) = _
        rw [Oo.fairest_none g c]
      rw [es] at k
      exact k _ p (ans_same (s1.trans (same_upd np)) hO (s1.free np) upd_same)
    · have hlen : 0 < (Or01.open_ o).length := List.length_pos_iff.mpr c
      refine Toy.if_false_of (decide_eq_false (fun e => by have := V.int.inj e; omega)) ?_
      have hp := Oo.rows_pos g
      have hle := Oo.rows_len g
      have hol := open_len o h7
      refine ⟨_, rfl, a, t, o, rfl, hO.same s1, g, fun H2 pr s2 hR => ?_⟩
      have hR' := hR.rows
      obtain ⟨qr, hr1, hr2⟩ := id hR'
      refine ⟨Nat.zero_le _, fun pf nf => ?_⟩
      have s3 : Same H2 (upd H2 pf (.lst [])) := same_upd nf
      refine ⟨_, rfl, pp, rfl, ⟨_, SqL.of (s3 _ _ (s2 _ _ h1))⟩, for_list (K := K) (a := pp) (xs := qs.map V.ref) (fun i σ H' => ∃ (y4 y5 y6 : Option V) (ads : List Addr), σ = [some (.ref a), some (.ref pp), some (.ref pr), some (.ref pf), y4, y5, y6, none] ∧ Same H2 H' ∧ ObjsAt q4O H H' pf ads (((Or01.open_ o).take i).map (fq o)))
        ⟨none, none, none, [], rfl, s3, .nil upd_same⟩ (fun i σ H' _ ⟨_, _, _, _, _, q, _⟩ => SqL.of (q _ _ (s2 _ _ h1))) ?_ ?_⟩
      · rintro i y σ H4 hi ⟨y4, y5, y6, ads, rfl, s4, hQ⟩
        obtain ⟨q, hq, rfl⟩ := ref_get hi
        obtain ⟨⟨x, v⟩, hz, eq⟩ := OX.paired_get h2 hq
        obtain ⟨hx, hv, _⟩ := Oo.mem_open.mp (List.mem_of_getElem? hz)
        refine ⟨q, _, rfl, SqT.of (s4 _ _ (s2 _ _ eq)), rfl, _, _, rfl, _, _, rfl, rfl, ?_⟩
        refine ⟨_, rfl, _, rfl, _, rfl, (by show 1 ≤ sizeLine; decide), fun po npo => ?_⟩
        have s5 : Same H4 (upd H4 po (.lst (nV [v]))) := same_upd npo
        refine ⟨pr, po, Or01.rows o, x, [v], rfl, hR'.same (s4.trans s5), upd_same, by simp, fun r hr' => ⟨row_mem hr' hx, fun z hz => by rw [List.mem_singleton.mp hz]; exact row_mem hr' hv⟩, fun H6 s6 => ?_⟩
        have s46 := s5.trans s6
        have hQ6 := hQ.same s46
        refine ⟨_, rfl, .inl ⟨rfl, _, SqL.of hQ6.1⟩, ?_⟩
        refine ⟨_, rfl, _, _, rfl, rfl, .inl ⟨by decide, by decide⟩, _, rfl, pr, _, rfl, .inl (SqL.of ((s4.trans s46) _ _ hr1)), _, _, rfl, rfl, _, rfl, ?_⟩
        refine ⟨_, rfl, _, rfl, _, rfl, (by show 4 ≤ sizeLine; decide), fun q4 nq4 => ?_⟩
        have ea : ((Or01.rows o).filter (aheadAll x [v])).length = Oo.aheadN o (x, v) := by rw [ahead_one]; rfl
        have eo : (if 2 * ((((Or01.rows o).filter (aheadAll x [v])).length : Nat) : Int) - ((qr.map V.ref).length : Int) < 0 then -(2 * ((((Or01.rows o).filter (aheadAll x [v])).length : Nat) : Int) - ((qr.map V.ref).length : Int)) else 2 * ((((Or01.rows o).filter (aheadAll x [v])).length : Nat) : Int) - ((qr.map V.ref).length : Int)) = ((Oo.offO o (x, v) : Nat) : Int) := by
          rw [ref_len hr2, ea]
          unfold Oo.offO Oo.offN
          split <;> omega
        have nq6 : H6 q4 = none := nq4
        have hQ7 := hQ6.same (same_upd nq4 (o := .tup [V.int (if 2 * ((((Or01.rows o).filter (aheadAll x [v])).length : Nat) : Int) - ((qr.map V.ref).length : Int) < 0 then -(2 * ((((Or01.rows o).filter (aheadAll x [v])).length : Nat) : Int) - ((qr.map V.ref).length : Int)) else 2 * ((((Or01.rows o).filter (aheadAll x [v])).length : Nat) : Int) - ((qr.map V.ref).length : Int)), V.int (x : Nat), V.int (v : Nat), V.int ((((Or01.rows o).filter (aheadAll x [v])).length : Nat) : Int)]))
        refine ⟨pf, _, _, rfl, rfl, hQ7.1, ?_, _, _, _, ads ++ [q4], rfl, ((s4.trans s46).trans (same_upd nq4)).put nf, ?_⟩
        · rw [List.length_map, hQ7.len, List.length_map, List.length_take]
          exact small (by omega)
        · rw [take_more hz, List.map_append]
          refine hQ7.put (fun e => ?_) ((((s1.trans s2).trans s4).trans s46).free nq4) ?_
          · rw [e] at nq6
            rw [hQ6.1] at nq6
            cases nq6
          · rw [upd_same, eo, ea]
            rfl
      · rintro σ H4 ⟨y4, y5, y6, ads, rfl, s4, hQ⟩
        rw [List.length_map, paired_len h2, List.take_length] at hQ
        refine ⟨_, rfl, pf, ads, (Or01.open_ o).map (fq o), rfl, SqL.of hQ.1, paired_mono (fun b z e => e.2.2) hQ.2, fun e => c (List.map_eq_nil_iff.mp e), fun b z eb hz hmin => ?_⟩
        obtain ⟨p, hpo, rfl⟩ := List.mem_map.mp hz
        have ef : Or01.fairest o = some p := Oo.fairest_some g hpo fun c' hc' hk => by
          refine hmin (fq o c') (List.mem_map.mpr ⟨c', hc', rfl⟩) ?_
          unfold Oo.KLt Oo.PLt at hk
          unfold Q4Lt fq
          simp only
          omega
        have es : step o .fairest = (o, Or01.ints [p.1, p.2] ++ Or01.fraction (Or01.chance o p.1 p.2)) := by
          show (o, match Or01.fairest o with | none => [-3] | some p => Or01.ints [p.1, p.2] ++ Or01.fraction (Or01.chance o p.1 p.2)) = _
          rw [ef]
        rw [es] at k
        refine ⟨b, _, rfl, SqT.of eb, rfl, _, _, rfl, _, _, rfl, _, _, rfl, _, _, rfl, rfl, ?_⟩
        refine ⟨_, rfl, _, rfl, (by show 2 ≤ sizeLine; decide), fun p1 np1 => ?_⟩
        have s5 : Same H4 (upd H4 p1 (.lst (nV [p.1, p.2]))) := same_upd np1
        refine ⟨_, rfl, _, rfl, pr, _, rfl, .inl (SqL.of (s5 _ _ (s4 _ _ hr1))), ?_⟩
        refine ⟨Oo.aheadN o p, (Or01.rows o).length, by rw [ref_len hr2]; rfl, hp, by omega, fun H6 p2 s6 np2 ep2 => ?_⟩
        refine ⟨p1, p2, _, _, rfl, rfl, s6 _ _ upd_same, ep2, by rw [nV_len, sizeLine_eq]; show 2 + 2 ≤ _; omega, fun p3 np3 => ?_⟩
        have sall := (((s1.trans s2).trans s4).trans s5).trans s6
        refine k _ p3 (ans_same (sall.trans (same_upd np3)) hO (sall.free np3) ?_)
        have ech : Or01.fraction (Or01.chance o p.1 p.2) = Or01.ints (shareN (Oo.aheadN o p) (Or01.rows o).length) := by
          unfold Or01.chance
          rw [Oo.fraction_part _ hp]
          rfl
        rw [upd_same, ech, ← ints_append, ← nV_iV]
        show _ = some (HO.lst (nV ([p.1, p.2] ++ _)))
        unfold nV
        rw [List.map_append]
        rfl
end
end OW
namespace OW
open PySem PySem.Spec PyProof.Rows L2 OX
open Or01 (Order things below place isThing step)
open Oo (Good Bel mem_things aheadOf behindOf Enough enoughL pairsN splitB)

/-! ### how many known answers there can be -/
def subs {α : Type} : List α → List (List α)
  | [] => [[]]
  | a :: l => subs l ++ (subs l).map (a :: ·)
theorem subs_len {α : Type} : ∀ l : List α, (subs l).length = 2 ^ l.length
  | [] => rfl
  | a :: l => by
    show (subs l ++ (subs l).map (a :: ·)).length = 2 ^ (l.length + 1)
    rw [List.length_append, List.length_map, subs_len l, Nat.pow_succ]
    omega
theorem mem_subs {α : Type} : ∀ {l s : List α}, s.Sublist l → s ∈ subs l
  | _, _, .slnil => List.mem_singleton.mpr rfl
  | _, _, .cons a h => List.mem_append_left _ (mem_subs h)
  | _, _, .cons_cons a h => List.mem_append_right _ (List.mem_map.mpr ⟨_, mem_subs h, rfl⟩)
/-- what is known: right answers, each once, of some of the rows L -/
structure Kno (ts : List Nat) (L : List (List Nat)) (ks : Kn) : Prop where
  val : ∀ k ∈ ks, k.2.2 = ((Enough ts k.1 : Nat) : Int)
  once : (ks.map (·.1)).Nodup
  sub : ∀ k ∈ ks, k.1.Sublist L ∧ k.1 ≠ []
theorem kget_none {ks : Kn} {rs : List (List Nat)} : kget ks rs = none ↔ ∀ k ∈ ks, k.1 ≠ rs := by
  unfold kget
  rw [Option.map_eq_none_iff, List.find?_eq_none]
  constructor
  · intro h k hk e
    exact h k hk (by simp [e])
  · intro h k hk e
    exact h k hk (of_decide_eq_true e)
theorem kget_some {ks : Kn} {rs : List (List Nat)} {v : Int} (h : kget ks rs = some v) : ∃ k ∈ ks, k.1 = rs ∧ k.2.2 = v := by
  unfold kget at h
  rw [Option.map_eq_some_iff] at h
  obtain ⟨k, hk, e⟩ := h
  exact ⟨k, List.mem_of_find?_eq_some hk, of_decide_eq_true (List.find?_some (p := fun k : List (List Nat) × Addr × Int => decide (k.1 = rs)) hk), e⟩
theorem kget_snoc {ks : Kn} {rs : List (List Nat)} {b : Addr} {v : Int} (h : kget ks rs = none) : kget (ks ++ [(rs, b, v)]) rs = some v := by
  unfold kget at *
  rw [List.find?_append]
  rw [Option.map_eq_none_iff] at h
  rw [h]
  simp
theorem Kno.room {ts : List Nat} {L : List (List Nat)} {ks : Kn} (h : Kno ts L ks) (hL : L.length ≤ 24) {rs : List (List Nat)} (hr : rs.Sublist L) (hn : kget ks rs = none) (h0 : rs ≠ []) : ks.length < sizeLine := by
  have hk := kget_none.mp hn
  have nd : (([] : List (List Nat)) :: rs :: ks.map (·.1)).Nodup := by
    rw [List.nodup_cons, List.nodup_cons]
    refine ⟨fun hm => ?_, fun hm => ?_, h.once⟩
    · rcases List.mem_cons.mp hm with e | hm
      · exact h0 e.symm
      · obtain ⟨k, hk', e⟩ := List.mem_map.mp hm
        exact (h.sub k hk').2 e
    · obtain ⟨k, hk', e⟩ := List.mem_map.mp hm
      exact hk k hk' e
  have := List.Nodup.length_le_of_subset nd (l₂ := subs L) fun z hz => by
    rcases List.mem_cons.mp hz with rfl | hz
    · exact mem_subs (List.nil_sublist _)
    · rcases List.mem_cons.mp hz with rfl | hz
      · exact mem_subs hr
      · obtain ⟨k, hk', rfl⟩ := List.mem_map.mp hz
        exact mem_subs (h.sub k hk').1
  rw [subs_len] at this
  have h24 : 2 ^ L.length ≤ 2 ^ 24 := Nat.pow_le_pow_right (by decide) hL
  have e24 : 2 ^ 24 = 16777216 := by decide
  simp only [List.length_cons, List.length_map] at this
  rw [sizeLine_eq]
  omega
theorem Kno.put {ts : List Nat} {L : List (List Nat)} {ks : Kn} (h : Kno ts L ks) {rs : List (List Nat)} (hr : rs.Sublist L) (hn : kget ks rs = none) (h0 : rs ≠ []) (b : Addr) : Kno ts L (ks ++ [(rs, b, ((Enough ts rs : Nat) : Int))]) := by
  refine ⟨fun k hk => ?_, ?_, fun k hk => ?_⟩
  · rcases List.mem_append.mp hk with hk | hk
    · exact h.val k hk
    · rw [List.mem_singleton.mp hk]
  · rw [List.map_append, List.nodup_append]
    refine ⟨h.once, by simp, fun x hx y hy e => ?_⟩
    obtain ⟨k, hk, rfl⟩ := List.mem_map.mp hx
    have : y = rs := by simpa using hy
    exact kget_none.mp hn k hk (e.trans this)
  · rcases List.mem_append.mp hk with hk | hk
    · exact h.sub k hk
    · rw [List.mem_singleton.mp hk]
      exact ⟨hr, h0⟩

/-! ### heaps where only one object has changed -/
def But (t : Addr) (H H' : Hp) : Prop := ∀ b u, H b = some u → b ≠ t → H' b = some u
theorem But.of {t : Addr} {H H' : Hp} (s : Same H H') : But t H H' := fun b u e _ => s b u e
theorem But.trans {t : Addr} {H H1 H2 : Hp} (a : But t H H1) (b : But t H1 H2) : But t H H2 := fun c u e n => b c u (a c u e n) n
theorem rows_but {P : Program} {w : World} {t : Addr} {H H' : Hp} {ks : Kn} (e : H t = some (KnO P w t ks)) (b : But t H H') {p : Addr} {rs : List (List Nat)} (h : RowsAt H p rs) : RowsAt H' p rs := by
  obtain ⟨qs, h1, h2⟩ := h
  exact ⟨qs, b _ _ h1 (ne_of h1 e (fun z => nomatch z)), paired_mono (fun q r (eq : H q = some (.lst (nV r))) => b _ _ eq (ne_of eq e (fun z => nomatch z))) h2⟩
theorem key_but {P : Program} {w : World} {t : Addr} {H H' : Hp} {ks : Kn} (e : H t = some (KnO P w t ks)) (b : But t H H') {p : Addr} {rs : List (List Nat)} (h : KeyT H p rs) : KeyT H' p rs := by
  obtain ⟨qs, h1, h2⟩ := h
  exact ⟨qs, b _ _ h1 (ne_of h1 e (fun z => nomatch z)), paired_mono (fun q r (eq : H q = some (.tup (nV r))) => b _ _ eq (ne_of eq e (fun z => nomatch z))) h2⟩
/-- at a what is asked already, its dict at kd -/
def AskAt (P : Program) (w : World) (C : Addr) (H : Hp) (a kd : Addr) (ks : Kn) : Prop := ∃ dx, H a = some (.ins C dx [("known", .ref kd)]) ∧ KnAt P w H kd ks
theorem AskAt.same {P : Program} {w : World} {C : Addr} {H H' : Hp} {a kd : Addr} {ks : Kn} (h : AskAt P w C H a kd ks) (s : Same H H') : AskAt P w C H' a kd ks := by
  obtain ⟨dx, h1, h2⟩ := h
  exact ⟨dx, s _ _ h1, h2.same s⟩
section
variable {P : Program} {w : World} {K : PySem.W.Frag} {mg : Str → Option Value} {base : Heap} {C : Addr}
/-! ### parts_of -/
abbrev sParts : Stmt := topS 11
theorem scParts : FnScope ["rows", "one", "other", "ahead", "behind", "row"] ["rows", "one", "other"] (defScope sParts) := ⟨rfl, rfl, rfl, by decide +kernel, rfl, by decide +kernel, by decide +kernel⟩
def spParts : Sp := fun vs H Q _ => ∃ (p : Addr) (rs : List (List Nat)) (x y : Nat), vs = [.ref p, .int (x : Nat), .int (y : Nat)] ∧ RowsAt H p rs ∧ (∀ r ∈ rs, x ∈ r ∧ y ∈ r) ∧ rs.length ≤ 900000 ∧
  ∀ (H' : Hp) (t pa pb : Addr), Same H H' → H' t = some (.tup [.ref pa, .ref pb]) → RowsAt H' pa (aheadOf rs x y) → RowsAt H' pb (behindOf rs x y) → Q (.ref t) H'
theorem c_parts (Ah : Cal P w K mg base "is_ahead" 1 ["row", "one", "other"] spAhead) (D : DefX K mg "parts_of" sParts ["rows", "one", "other"]) : Cal P w K mg base "parts_of" 2 ["rows", "one", "other"] spParts := by
  refine D.cal fun f fd F => ?_
  refine F.ok scParts (fun vs H Q E h => ?_) (fun cdv A outer s H vs Q E hr h => ?_)
  · obtain ⟨p, rs, x, y, rfl, _⟩ := h
    rfl
  · obtain ⟨p, rs, x, y, rfl, ⟨qs, h1, h2⟩, hm, hl, k⟩ := h
    have nd := scParts.nd
    refine ⟨_, pss_cons (ps_setLc (i := 3) (own := [("row", 5)]) (g := gName 5) (tt := tB (tCall spAhead [] E0 (tCons (tVar 5) (tCons (tVar 1) (tCons (tVar 2) tNil))))) (te := tVar 5) rfl nd rfl rfl (sw_true rfl rfl rfl (by decide +kernel))
          (pi_list (pv 0)) (blkOk_by (N := ["rows", "one", "other", "ahead", "behind", "row"]) (sc := defScope sParts) (by decide +kernel))
          (fun _ _ _ _ _ => pg_name (i := 5) nd rfl (Or.inl rfl)) (fun _ _ _ _ _ => pts_one (pt_val (pe_cal Ah hr (by rfl) (pa_cons (pv 5) (pa_cons (pv 1) (pa_cons (pv 2) pa_nil)))))) (fun _ _ _ _ _ => pv 5))
      (pss_cons (ps_setLc (i := 4) (own := [("row", 5)]) (g := gName 5) (tt := tNot (tB (tCall spAhead [] E0 (tCons (tVar 5) (tCons (tVar 1) (tCons (tVar 2) tNil)))))) (te := tVar 5) rfl nd rfl rfl (sw_true rfl rfl rfl (by decide +kernel))
          (pi_list (pv 0)) (blkOk_by (N := ["rows", "one", "other", "ahead", "behind", "row"]) (sc := defScope sParts) (by decide +kernel))
          (fun _ _ _ _ _ => pg_name (i := 5) nd rfl (Or.inl rfl)) (fun _ _ _ _ _ => pts_one (pt_not (pt_val (pe_cal Ah hr (by rfl) (pa_cons (pv 5) (pa_cons (pv 1) (pa_cons (pv 2) pa_nil))))))) (fun _ _ _ _ _ => pv 5))
      (pss_one (ps_ret (pe_tup (pa_cons (pv 3) (pa_cons (pv 4) pa_nil)))))), ?_⟩
    have flen : ∀ (b : List Nat → Bool) (m : Nat), ((rs.take m).filter b).length < sizeLine := fun b m => by
      have := filt_take_le rs b m
      exact small (by omega)
    refine ⟨_, rfl, p, rfl, ⟨_, SqL.of h1⟩, fun D1 nD1 => lc_list (K := K) (a := p) (xs := qs.map V.ref) (fun m H' => Same H H' ∧ ∃ us, H' D1 = some (.lst (us.map V.ref)) ∧ Paired (fun q r => H q = some (.lst (nV r))) us ((rs.take m).filter fun r => decide (place r x < place r y)))
      ⟨same_upd nD1, [], upd_same, .nil⟩ (fun m H' _ ⟨q, _⟩ => SqL.of (q _ _ h1)) ?_ ?_⟩
    · rintro m v H2 hm2 ⟨s2, us, eD, hu⟩
      obtain ⟨q, hq, rfl⟩ := ref_get hm2
      obtain ⟨r, hr', eq⟩ := OX.paired_get h2 hq
      have hrm := hm r (List.mem_of_getElem? hr')
      refine ⟨rfl, ?_⟩
      refine ⟨_, rfl, _, rfl, _, rfl, q, r, x, y, rfl, s2 _ _ eq, hrm.1, hrm.2, _, rfl, ?_⟩
      by_cases c : place r x < place r y
      · refine Toy.if_true_of (decide_eq_true c) ?_
        refine ⟨_, rfl, _, eD, ?_, s2.put nD1, us ++ [q], ?_, ?_⟩
        · rw [List.length_map, paired_len hu]
          exact flen _ _
        · rw [upd_same, List.map_append]; rfl
        · rw [take_more hr', List.filter_append, List.filter_cons, if_pos (decide_eq_true c), List.filter_nil]
          exact paired_snoc (F := fun q r => H q = some (.lst (nV r))) eq hu
      · refine Toy.if_false_of (decide_eq_false c) ⟨s2, us, eD, ?_⟩
        rw [take_more hr', List.filter_append, List.filter_cons, if_neg (by rw [decide_eq_false c]; exact Bool.false_ne_true), List.filter_nil, List.append_nil]
        exact hu
    rintro H2 ⟨s2, us, eD, hu⟩
    rw [List.length_map, paired_len h2, List.take_length] at hu
    refine ⟨_, rfl, p, rfl, ⟨_, SqL.of (s2 _ _ h1)⟩, fun D2 nD2 => lc_list (K := K) (a := p) (xs := qs.map V.ref) (fun m H' => Same H2 H' ∧ ∃ us, H' D2 = some (.lst (us.map V.ref)) ∧ Paired (fun q r => H q = some (.lst (nV r))) us ((rs.take m).filter fun r => !decide (place r x < place r y)))
      ⟨same_upd nD2, [], upd_same, .nil⟩ (fun m H' _ ⟨q, _⟩ => SqL.of (q _ _ (s2 _ _ h1))) ?_ ?_⟩
    · rintro m v H3 hm3 ⟨s3, us3, eD3, hu3⟩
      obtain ⟨q, hq, rfl⟩ := ref_get hm3
      obtain ⟨r, hr', eq⟩ := OX.paired_get h2 hq
      have hrm := hm r (List.mem_of_getElem? hr')
      refine ⟨rfl, ?_⟩
      refine ⟨_, rfl, _, rfl, _, rfl, q, r, x, y, rfl, (s2.trans s3) _ _ eq, hrm.1, hrm.2, _, rfl, ?_⟩
      by_cases c : place r x < place r y
      · refine Toy.if_false_of (by rw [decide_eq_true c]; rfl) ⟨s3, us3, eD3, ?_⟩
        rw [take_more hr', List.filter_append, List.filter_cons, if_neg (by rw [decide_eq_true c]; exact Bool.false_ne_true), List.filter_nil, List.append_nil]
        exact hu3
      · refine Toy.if_true_of (by rw [decide_eq_false c]; rfl) ?_
        refine ⟨_, rfl, _, eD3, ?_, s3.put nD2, us3 ++ [q], ?_, ?_⟩
        · rw [List.length_map, paired_len hu3]
          exact flen _ _
        · rw [upd_same, List.map_append]; rfl
        · rw [take_more hr', List.filter_append, List.filter_cons, if_pos (by rw [decide_eq_false c]; rfl), List.filter_nil]
          exact paired_snoc (F := fun q r => H q = some (.lst (nV r))) eq hu3
    rintro H3 ⟨s3, us3, eD3, hu3⟩
    rw [List.length_map, paired_len h2, List.take_length] at hu3
    refine ⟨_, rfl, _, rfl, (by show 2 ≤ sizeLine; decide), fun t nt => ?_⟩
    have s4 : Same H3 (upd H3 t (.tup [.ref D1, .ref D2])) := same_upd nt
    have sall := (s2.trans s3).trans s4
    exact k _ t D1 D2 sall upd_same ⟨us, (s3.trans s4) _ _ eD, paired_mono (fun q r e => sall _ _ e) hu⟩ ⟨us3, s4 _ _ eD3, paired_mono (fun q r e => sall _ _ e) hu3⟩
/-! ### Asking.__init__ -/
abbrev sAInit : Stmt := inClass (topS 10) 0
theorem scAInit : FnScope ["self"] ["self"] (defScope sAInit) := ⟨rfl, rfl, rfl, by decide +kernel, rfl, by decide +kernel, by decide +kernel⟩
def spAInit (P : Program) (w : World) (C : Addr) : Sp := fun vs H Q _ => ∃ (p dx : Addr), vs = [.ref p] ∧ H p = some (.ins C dx []) ∧
  ∀ (t : Addr), H t = none → Q .non (upd (upd H t (KnO P w t [])) p (.ins C dx [("known", .ref t)]))
theorem ok_ainit {f : Addr} {fd : FuncData} (T : AskX K mg C) (F : Fun K "__init__" "Asking.__init__" sAInit f fd) : FnOk P w K mg base CX0 1 f fd ["self"] (spAInit P w C) := by
  refine F.ok scAInit (fun vs H Q E h => ?_) (fun cdv A outer s H vs Q E hr h => ?_)
  · obtain ⟨p, dx, rfl, _⟩ := h
    rfl
  · obtain ⟨p, dx, rfl, hp, k⟩ := h
    refine ⟨_, pss_one (ps_fld (pv 0) pe_knew rfl), ?_⟩
    refine fun t nt => ⟨_, rfl, p, C, dx, [], rfl, (same_upd nt) _ _ hp, T.c.cl, T.nK, (by show 0 < 1000; decide), ?_⟩
    exact k t nt
/-! ### enough_for -/
abbrev sEnough : Stmt := topS 12
theorem scEnough : FnScope ["asking", "rows", "key", "found", "things", "one", "other", "ahead", "behind", "row"] ["asking", "rows"] (defScope sEnough) := ⟨rfl, rfl, rfl, by decide +kernel, rfl, by decide +kernel, by decide +kernel⟩
def tupR (K : PySem.W.Frag) : List V → Hp → VK → Prop := fun xs H Q => ∃ p ys, xs = [.ref p] ∧ ((SqL K H p ys ∧ ∀ l, H l = none → Q (.ref l) (upd H l (.tup ys))) ∨ (SqT K H p ys ∧ Q (.ref p) H))
def tupO (r : List Nat) : HO := .tup (nV r)
def spEnough (P : Program) (w : World) (C : Addr) (n : Nat) : Sp := fun vs H Q _ => ∃ (a p kd : Addr) (ks : Kn) (rs L : List (List Nat)) (ts : List Nat), vs = [.ref a, .ref p] ∧ AskAt P w C H a kd ks ∧ RowsAt H p rs ∧ Oo.Rows ts rs ∧ ts.Pairwise (· < ·) ∧ ts.length ≤ 7 ∧ rs ≠ [] ∧ rs.length ≤ n ∧
  Kno ts L ks ∧ rs.Sublist L ∧ L.length ≤ 24 ∧
  ∀ (H' : Hp) (ks' : Kn), But kd H H' → AskAt P w C H' a kd ks' → Kno ts L ks' → (∀ k ∈ ks', k ∈ ks ∨ k.1.length ≤ rs.length) → Q (.int ((Enough ts rs : Nat) : Int)) H'
theorem enoughL_eq (ts : List Nat) (rs : List (List Nat)) : enoughL ts rs = ts.flatMap fun x => (ts.filter fun y => splitB rs (x, y)).map fun y => 1 + max (Enough ts (aheadOf rs x y)) (Enough ts (behindOf rs x y)) := by
  unfold enoughL pairsN
  rw [List.filter_flatMap, List.map_flatMap]
  congr 1
  funext x
  rw [List.filter_map, List.map_map]
  rfl
theorem sorted_row {ts r : List Nat} (hs : ts.Pairwise (· < ·)) (hp : r.Perm ts) {ns : List Int} (h1 : ns.Perm (r.map fun (n : Nat) => (n : Int))) (h2 : ns.Pairwise (· ≤ ·)) : ns.map V.int = nV ts := by
  have e : ns = ts.map fun (n : Nat) => (n : Int) := by
    refine List.Perm.eq_of_pairwise (le := (· ≤ ·)) (fun a b _ _ h k => Int.le_antisymm h k) h2 ?_ (h1.trans (hp.map _))
    rw [List.pairwise_map]
    exact hs.imp fun h => by omega
  rw [e, List.map_map]
  rfl
theorem c_enough (B : Bn mg) (TA : AskX K mg C) (Pa : Cal P w K mg base "parts_of" 2 ["rows", "one", "other"] spParts) (D : DefX K mg "enough_for" sEnough ["asking", "rows"]) : ∀ n, Cal P w K mg base "enough_for" (n + 4) ["asking", "rows"] (spEnough P w C n) := by
  intro n
  induction n with
  | zero =>
    refine D.cal fun f fd F => ?_
    refine F.ok scEnough (fun vs H Q E h => ?_) (fun cdv A outer s H vs Q E hr h => ?_)
    · obtain ⟨a, p, kd, ks, rs, L, ts, rfl, _⟩ := h
      rfl
    · obtain ⟨a, p, kd, ks, rs, L, ts, rfl, _, _, _, _, _, h0, hn, _⟩ := h
      exact absurd (List.length_eq_zero_iff.mp (Nat.le_zero.mp hn)) h0
  | succ n ih =>
    refine D.cal fun f fd F => ?_
    refine F.ok scEnough (fun vs H Q E h => ?_) (fun cdv A outer s H vs Q E hr h => ?_)
    · obtain ⟨a, p, kd, ks, rs, L, ts, rfl, _⟩ := h
      rfl
    · obtain ⟨a, p, kd, ks, rs, L, ts, rfl, hA, hR, hT, hs, h7, h0, hn, hK, hsub, hL, k⟩ := h
      have nd := scEnough.nd
      have hr2 := hr.mono (j := 2) (by omega)
      have hu : (A.deeper (envOfC "enough_for" (defScope sEnough) s.heap.objs.size f cdv)).units + 64 < cLine := hr.units
      refine ⟨_, pss_cons (ps_if (pt_cmpR op_eq (pe_callB call_len_seq (by rfl) B.len PySem.boot_len (pa_cons (pv 1) pa_nil)) pe_int (nomark _)) (pss_one (ps_ret pe_int)) pss_nil)
        (pss_cons (ps_set (i := 2) nd rfl (.inl rfl) (pe_callTy call_tuple_of (by rfl) B.tuple (by decide +kernel) (pa_cons
          (pe_lc (own := [("row", 9)]) (g := gName 9) (tt := tYes) (te := tCB (tupR K) (tCons (tVar 9) tNil)) rfl nd (pi_list (pv 1)) (blkOk_by (N := ["asking", "rows", "key", "found", "things", "one", "other", "ahead", "behind", "row"]) (sc := defScope sEnough) (by decide +kernel))
            (fun _ _ _ _ _ => pg_name (i := 9) nd rfl (Or.inl rfl)) (fun _ _ _ _ _ => pts_nil) (fun _ _ _ _ _ => pe_callTy call_tuple_of (by rfl) B.tuple (by decide +kernel) (pa_cons (pv 9) pa_nil))) pa_nil)))
        (pss_cons (ps_if (pt_cmpR (op_knot hu) (pv 2) (pe_fld (pv 0) rfl) (by rfl))
          (pss_cons (ps_set (i := 3) nd rfl (.inl rfl) (pe_lst pa_nil))
          (pss_cons (ps_set (i := 4) nd rfl (.inl rfl) (pe_callB cr_sortedI (by rfl) B.sorted (by decide +kernel) (pa_cons (pe_ix ix_list (pv 1) pe_int (fun _ _ => rfl)) pa_nil)))
          (pss_cons (ps_for PassesOwn.never rfl (pi_list (pv 4)) (pg_name (i := 5) nd rfl (.inl rfl))
            (pss_one (ps_for PassesOwn.never rfl (pi_list (pv 4)) (pg_name (i := 6) nd rfl (.inl rfl))
              (pss_cons (ps_asg (pe_cal Pa hr2 (by rfl) (pa_cons (pv 1) (pa_cons (pv 5) (pa_cons (pv 6) pa_nil)))) (pg_tup rfl (pgs_cons (pg_name (i := 7) nd rfl (.inl rfl)) (pgs_cons (pg_name (i := 8) nd rfl (.inl rfl)) pgs_nil))))
              (pss_one (ps_if (PW.pt (pw_and (pt_cmpR op_lt (pv 5) (pv 6) (nomark _)) (pw_and (pt_cmpR op_gt (pe_callB call_len_seq (by rfl) B.len PySem.boot_len (pa_cons (pv 7) pa_nil)) pe_int (nomark _)) (pw_and1 (pt_cmpR op_gt (pe_callB call_len_seq (by rfl) B.len PySem.boot_len (pa_cons (pv 8) pa_nil)) pe_int (nomark _))))))
                (pss_one (ps_expr (pe_bm PySem.F.plainAttrs_list PySem.F.slot_list_append PySem.F.type_list_append mt_append (pv 3) (pa_cons (pe_op op_add pe_int (pe_callB (call_max2 rfl) (by rfl) B.max (by decide +kernel) (pa_cons (pe_cal ih hr (by rfl) (pa_cons (pv 0) (pa_cons (pv 7) pa_nil))) (pa_cons (pe_cal ih hr (by rfl) (pa_cons (pv 0) (pa_cons (pv 8) pa_nil))) pa_nil)))) pa_nil)))) pss_nil))))))
          (pss_one (ps_kput hu (pe_fld (pv 0) rfl) (pv 2) (pe_callB (cr_min rfl) (by rfl) B.min (by decide +kernel) (pa_cons (pv 3) pa_nil)) rfl)))))
          pss_nil)
        (pss_one (ps_ret (pe_kget hu (pe_fld (pv 0) rfl) (pv 2) (fun _ _ => rfl)))))), ?_⟩
      obtain ⟨qs, h1, h2⟩ := id hR
      refine ⟨_, rfl, p, _, rfl, .inl (SqL.of h1), rfl, _, rfl, ?_⟩
      rw [ref_len h2]
      by_cases c1 : rs.length = 1
      · refine Toy.if_true_of (by rw [c1]; rfl) ?_
        have e := Oo.Enough_one (ts := ts) c1
        rw [e] at k
        exact k H ks (fun b u e _ => e) hA hK fun k hk => .inl hk
      refine Toy.if_false_of (decide_eq_false (fun e => c1 (by have := V.int.inj e; omega))) ?_
      have hl0 : 0 < rs.length := List.length_pos_iff.mpr h0
      have hl24 : rs.length ≤ 24 := Nat.le_trans hsub.length_le hL
      -- the key
      refine ⟨_, rfl, p, rfl, ⟨_, SqL.of h1⟩, fun D1 nD1 => lc_list (K := K) (a := p) (xs := qs.map V.ref) (fun m H' => Same H H' ∧ ∃ us, ObjsAt tupO H H' D1 us (rs.take m))
        ⟨same_upd nD1, [], .nil upd_same⟩ (fun m H' _ ⟨q, _⟩ => SqL.of (q _ _ h1)) ?_ ?_⟩
      · rintro m v H2 hm2 ⟨s2, us, hu2⟩
        obtain ⟨q, hq, rfl⟩ := ref_get hm2
        obtain ⟨r, hr', eq⟩ := OX.paired_get h2 hq
        refine ⟨rfl, ?_⟩
        refine ⟨_, rfl, q, nV r, rfl, .inl ⟨SqL.of (s2 _ _ eq), fun l nl => ?_⟩⟩
        have hu3 := hu2.same (same_upd nl (o := .tup (nV r)))
        refine ⟨_, hu3.1, ?_, (s2.trans (same_upd nl)).put nD1, us ++ [l], ?_⟩
        · rw [List.length_map, hu3.len, List.length_take]
          exact small (by omega)
        · rw [take_more hr']
          refine hu3.put (fun e => ?_) (s2.free nl) upd_same
          rw [e, hu2.1] at nl
          cases nl
      rintro H2 ⟨s2, us, hu2⟩
      rw [List.length_map, paired_len h2, List.take_length] at hu2
      refine ⟨D1, us.map V.ref, rfl, .inl ⟨SqL.of hu2.1, fun kt nkt => ?_⟩⟩
      have s3 : Same H2 (upd H2 kt (.tup (us.map V.ref))) := same_upd nkt
      generalize hH3 : upd H2 kt (.tup (us.map V.ref)) = H3 at s3
      have hkey : KeyT H3 kt rs := ⟨us, by rw [← hH3, upd_same], paired_mono (fun q r e => s3 _ _ e.2.2) hu2.2⟩
      have s13 := s2.trans s3
      have hA3 := hA.same s13
      -- what is left at the end
      have fin : ∀ (y3 y4 y5 y6 y7 y8 : Option V) (H' : Hp) (ks' : Kn), But kd H H' → AskAt P w C H' a kd ks' → KeyT H' kt rs → Kno ts L ks' → (∀ k ∈ ks', k ∈ ks ∨ k.1.length ≤ rs.length) → kget ks' rs = some ((Enough ts rs : Nat) : Int) →
          tRet (tKget P w (tFld K (tVar 0) "known") (tVar 2)) { nx := fun _ H' => Q .non H', rt := Q } [some (.ref a), some (.ref p), some (.ref kt), y3, y4, y5, y6, y7, y8, none] H' := fun y3 y4 y5 y6 y7 y8 H' ks' hb hA' hk' hK' hks hg => by
        obtain ⟨dx, e1, e2⟩ := id hA'
        exact ⟨_, rfl, a, C, dx, _, _, rfl, e1, TA.c.cl, TA.nK, lk_here, _, rfl, kd, kt, ks', rs, _, rfl, rfl, e2, hk', hg, k H' ks' hb hA' hK' hks⟩
      obtain ⟨dx3, e31, e32⟩ := id hA3
      refine ⟨_, rfl, _, rfl, a, C, dx3, _, _, rfl, e31, TA.c.cl, TA.nK, lk_here, kd, kt, ks, rs, rfl, rfl, e32, hkey, _, rfl, ?_⟩
      cases hg : kget ks rs with
      | some v =>
        refine Toy.if_false_of rfl ?_
        obtain ⟨k0, hk0, e0, ev⟩ := kget_some hg
        have := hK.val k0 hk0
        rw [ev, e0] at this
        exact fin none none none none none none H3 ks (.of s13) hA3 hkey hK (fun k hk => .inl hk) (by rw [hg, this])
      | none =>
        refine Toy.if_true_of rfl ?_
        have hRk := rows_but e32.1 (But.of (Same.refl H3)) (hR.same s13)
        obtain ⟨r0, rr, ers⟩ : ∃ r0 rr, rs = r0 :: rr := by
          cases rs with
          | nil => exact absurd rfl h0
          | cons r0 rr => exact ⟨r0, rr, rfl⟩
        obtain ⟨q0, hq0⟩ : ∃ q0, qs[0]? = some q0 := by
          have := paired_len h2
          exact ⟨qs[0]'(by omega), List.getElem?_eq_getElem (by omega)⟩
        obtain ⟨r0', er0, eq0⟩ := OX.paired_get h2 hq0
        have hr0 : r0' ∈ rs := List.mem_of_getElem? er0
        -- found = []
        refine ⟨Nat.zero_le _, fun pf npf => ?_⟩
        have s4 : Same H3 (upd H3 pf (.lst [])) := same_upd npf
        -- things = sorted(rows[0])
        refine ⟨_, rfl, p, _, 0, .ref q0, rfl, rfl, SqL.of (s4 _ _ (s13 _ _ h1)), atI_nat (j := 0) (by rw [List.getElem?_map, hq0]; rfl), ?_⟩
        refine ⟨q0, r0'.map fun (n : Nat) => (n : Int), rfl, SqL.of (by rw [List.map_map]; exact s4 _ _ (s13 _ _ eq0)), fun ns pt hperm hris npt => ?_⟩
        have ets := sorted_row hs (hT.perm r0' hr0) hperm hris
        rw [ets]
        have npt3 : H3 pt = none := s4.free npt
        have hpp : pt ≠ pf := fun e => by rw [e, upd_same] at npt; cases npt
        have hkdf : ∀ {b : Addr}, H3 b = none → b ≠ kd := fun {b} n e => by rw [e, e32.1] at n; cases n
        let part : Nat → List Nat := fun i => (ts.take i).flatMap fun x => (ts.filter fun y => splitB rs (x, y)).map fun y => 1 + max (Enough ts (aheadOf rs x y)) (Enough ts (behindOf rs x y))
        have plen : ∀ (i j x : Nat), (part i ++ (((ts.take j).filter fun y => splitB rs (x, y)).map fun y => 1 + max (Enough ts (aheadOf rs x y)) (Enough ts (behindOf rs x y)))).length ≤ 100 := fun i j x => by
          have a1 := flat_le (f := fun x => (ts.filter fun y => splitB rs (x, y)).map fun y => 1 + max (Enough ts (aheadOf rs x y)) (Enough ts (behindOf rs x y))) (m := 7) (ts.take i) (fun x _ => by
            show ((ts.filter fun y => splitB rs (x, y)).map fun y => 1 + max (Enough ts (aheadOf rs x y)) (Enough ts (behindOf rs x y))).length ≤ 7
            rw [List.length_map]
            exact Nat.le_trans (List.length_filter_le _ _) h7)
          have a2 := filt_take_le ts (fun y => splitB rs (x, y)) j
          rw [List.length_take] at a1
          rw [List.length_append, List.length_map]
          show ((ts.take i).flatMap _).length + _ ≤ 100
          omega
        refine ⟨_, rfl, pt, rfl, ⟨_, SqL.of upd_same⟩, for_list (K := K) (a := pt) (xs := nV ts) (fun i σ H' => ∃ (y5 y6 y7 y8 : Option V) (ks' : Kn), σ = [some (.ref a), some (.ref p), some (.ref kt), some (.ref pf), some (.ref pt), y5, y6, y7, y8, none] ∧ But kd H3 H' ∧ AskAt P w C H' a kd ks' ∧ Kno ts L ks' ∧ (∀ k ∈ ks', k ∈ ks ∨ k.1.length < rs.length) ∧ H' pt = some (.lst (nV ts)) ∧ H' pf = some (.lst (nV (part i))))
          ⟨none, none, none, none, ks, rfl, .of (s4.trans (same_upd npt)), hA3.same (s4.trans (same_upd npt)), hK, fun k hk => .inl hk, upd_same, by rw [upd_ne (Ne.symm hpp), upd_same]; rfl⟩ (fun i σ H' _ ⟨_, _, _, _, _, _, _, _, _, _, q, _⟩ => SqL.of q) ?_ ?_⟩
        · rintro i y σ H4 hi ⟨y5, y6, y7, y8, ks4, rfl, b4, hA4, hK4, hk4, ept, epf⟩
          obtain ⟨x, hx, rfl⟩ := nV_get hi
          have hxt := List.mem_of_getElem? hx
          refine ⟨_, rfl, pt, rfl, ⟨_, SqL.of ept⟩, for_list (K := K) (a := pt) (xs := nV ts) (fun j σ H' => ∃ (y6 y7 y8 : Option V) (ks' : Kn), σ = [some (.ref a), some (.ref p), some (.ref kt), some (.ref pf), some (.ref pt), some (.int (x : Nat)), y6, y7, y8, none] ∧ But kd H3 H' ∧ AskAt P w C H' a kd ks' ∧ Kno ts L ks' ∧ (∀ k ∈ ks', k ∈ ks ∨ k.1.length < rs.length) ∧ H' pt = some (.lst (nV ts)) ∧ H' pf = some (.lst (nV (part i ++ (((ts.take j).filter fun y => splitB rs (x, y)).map fun y => 1 + max (Enough ts (aheadOf rs x y)) (Enough ts (behindOf rs x y)))))))
            ⟨y6, y7, y8, ks4, rfl, b4, hA4, hK4, hk4, ept, by rw [List.take_zero, List.filter_nil, List.map_nil, List.append_nil]; exact epf⟩ (fun i σ H' _ ⟨_, _, _, _, _, _, _, _, _, q, _⟩ => SqL.of q) ?_ ?_⟩
          · rintro j y σ H5 hj ⟨z6, z7, z8, ks5, rfl, b5, hA5, hK5, hk5, ept5, epf5⟩
            obtain ⟨y, hy, rfl⟩ := nV_get hj
            have hyt := List.mem_of_getElem? hy
            have hR5 := rows_but e32.1 b5 (hR.same s13)
            refine ⟨_, rfl, _, rfl, _, rfl, p, rs, x, y, rfl, hR5, fun r hr' => ⟨(hT.perm r hr').symm.subset hxt, (hT.perm r hr').symm.subset hyt⟩, by omega, fun H6 tt pa pb s6 ett hRa hRb => ?_⟩
            refine ⟨tt, _, rfl, SqT.of ett, rfl, _, _, rfl, _, _, rfl, rfl, ?_⟩
            have b6 : But kd H3 H6 := b5.trans (.of s6)
            have hA6 := hA5.same s6
            obtain ⟨qa, ea1, ea2⟩ := id hRa
            obtain ⟨qb, eb1, eb2⟩ := id hRb
            have hsp : splitB rs (x, y) = (decide (x < y) && decide (0 < (aheadOf rs x y).length) && decide (0 < (behindOf rs x y).length)) := rfl
            have skip : splitB rs (x, y) = false → ∃ (y6 y7 y8 : Option V) (ks' : Kn), ([some (.ref a), some (.ref p), some (.ref kt), some (.ref pf), some (.ref pt), some (.int (x : Nat)), some (.int (y : Nat)), some (.ref pa), some (.ref pb), none] : List (Option V)) = [some (.ref a), some (.ref p), some (.ref kt), some (.ref pf), some (.ref pt), some (.int (x : Nat)), y6, y7, y8, none] ∧ But kd H3 H6 ∧ AskAt P w C H6 a kd ks' ∧ Kno ts L ks' ∧ (∀ k ∈ ks', k ∈ ks ∨ k.1.length < rs.length) ∧ H6 pt = some (.lst (nV ts)) ∧ H6 pf = some (.lst (nV (part i ++ (((ts.take (j + 1)).filter fun y => splitB rs (x, y)).map fun y => 1 + max (Enough ts (aheadOf rs x y)) (Enough ts (behindOf rs x y)))))) := fun c => by
              refine ⟨_, _, _, ks5, rfl, b6, hA6, hK5, hk5, s6 _ _ ept5, ?_⟩
              rw [take_more hy, List.filter_append, List.filter_cons, if_neg (by rw [c]; exact Bool.false_ne_true), List.filter_nil, List.append_nil]
              exact s6 _ _ epf5
            refine ⟨_, rfl, _, rfl, _, _, rfl, rfl, _, rfl, ?_⟩
            by_cases d1 : ¬ x < y
            · refine Toy.if_false_of (decide_eq_false (by omega)) ?_
              exact skip (by rw [hsp, decide_eq_false d1]; rfl)
            have d1 : x < y := Classical.byContradiction d1
            refine Toy.if_true_of (decide_eq_true (by omega)) ?_
            refine ⟨_, rfl, pa, _, rfl, .inl (SqL.of ea1), _, _, rfl, rfl, _, rfl, ?_⟩
            rw [ref_len ea2]
            by_cases d2 : ¬ 0 < (aheadOf rs x y).length
            · refine Toy.if_false_of (decide_eq_false (by omega)) ?_
              exact skip (by rw [hsp, decide_eq_false d2]; simp)
            have d2 : 0 < (aheadOf rs x y).length := Classical.byContradiction d2
            refine Toy.if_true_of (decide_eq_true (by omega)) ?_
            refine ⟨_, rfl, pb, _, rfl, .inl (SqL.of eb1), _, _, rfl, rfl, _, rfl, ?_⟩
            rw [ref_len eb2]
            by_cases d3 : ¬ 0 < (behindOf rs x y).length
            · refine Toy.if_false_of (decide_eq_false (by omega)) ?_
              exact skip (by rw [hsp, decide_eq_false d3]; simp)
            have d3 : 0 < (behindOf rs x y).length := Classical.byContradiction d3
            refine Toy.if_true_of (decide_eq_true (by omega)) ?_
            have hsplit : splitB rs (x, y) = true := by rw [hsp, decide_eq_true d1, decide_eq_true d2, decide_eq_true d3]; rfl
            have hab := Oo.ahead_behind rs x y
            have epf6 := s6 _ _ epf5
            refine ⟨_, rfl, .inl ⟨rfl, _, SqL.of epf6⟩, ?_⟩
            refine ⟨_, rfl, _, rfl, a, pa, kd, ks5, aheadOf rs x y, L, ts, rfl, hA6, hRa, hT.ahead x y, hs, h7, List.length_pos_iff.mp d2, by omega, hK5, (List.filter_sublist).trans hsub, hL, fun H7 ks7 b7 hA7 hK7 hk7 => ?_⟩
            obtain ⟨dx6, e61, e62⟩ := id hA6
            have hRb7 := rows_but e62.1 b7 hRb
            refine ⟨_, rfl, _, rfl, a, pb, kd, ks7, behindOf rs x y, L, ts, rfl, hA7, hRb7, hT.behind x y, hs, h7, List.length_pos_iff.mp d3, by omega, hK7, (List.filter_sublist).trans hsub, hL, fun H8 ks8 b8 hA8 hK8 hk8 => ?_⟩
            have b68 := b7.trans b8
            have epf8 := b68 _ _ epf6 (ne_of epf6 e62.1 (fun z => nomatch z))
            have ept8 := b68 _ _ (s6 _ _ ept5) (ne_of (s6 _ _ ept5) e62.1 (fun z => nomatch z))
            refine ⟨_, _, rfl, _, _, rfl, rfl, ?_⟩
            have emax : (if ((Enough ts (behindOf rs x y) : Nat) : Int) > ((Enough ts (aheadOf rs x y) : Nat) : Int) then ((Enough ts (behindOf rs x y) : Nat) : Int) else ((Enough ts (aheadOf rs x y) : Nat) : Int)) = ((max (Enough ts (aheadOf rs x y)) (Enough ts (behindOf rs x y)) : Nat) : Int) := by
              split <;> omega
            refine ⟨pf, _, _, rfl, rfl, epf8, ?_, ?_⟩
            · rw [nV_len]
              exact small (Nat.le_trans (plen i j x) (by decide))
            refine ⟨_, _, _, ks8, rfl, fun b u e nb => ?_, ?_, hK8, fun k hk => ?_, ?_, ?_⟩
            · rw [upd_ne (ne_of_none e npf)]
              exact (b6.trans b68) b u e nb
            · obtain ⟨dx8, e81, e82⟩ := hA8
              refine ⟨dx8, ?_, ?_, fun k hk => (e82.2 k hk).same fun b xs e => ?_⟩
              · rw [upd_ne (ne_of e81 epf8 (fun z => nomatch z))]
                exact e81
              · rw [upd_ne (ne_of e82.1 epf8 (fun z => nomatch z))]
                exact e82.1
              · rw [upd_ne (ne_of e epf8 (fun z => nomatch z))]
                exact e
            · rcases hk8 k hk with q | q
              · rcases hk7 k q with q | q
                · exact hk5 k q
                · exact .inr (by omega)
              · exact .inr (by omega)
            · rw [upd_ne hpp]
              exact ept8
            · rw [upd_same, take_more hy, List.filter_append, List.filter_cons, if_pos hsplit, List.filter_nil, List.map_append, ← List.append_assoc]
              show some (HO.lst (nV _ ++ [V.int (1 + (if ((Enough ts (behindOf rs x y) : Nat) : Int) > ((Enough ts (aheadOf rs x y) : Nat) : Int) then ((Enough ts (behindOf rs x y) : Nat) : Int) else ((Enough ts (aheadOf rs x y) : Nat) : Int)))])) = some (HO.lst (nV (_ ++ [1 + max (Enough ts (aheadOf rs x y)) (Enough ts (behindOf rs x y))])))
              rw [emax, nV_snoc]
              rfl
          · rintro σ H5 ⟨z6, z7, z8, ks5, rfl, b5, hA5, hK5, hk5, ept5, epf5⟩
            refine ⟨_, _, _, _, ks5, rfl, b5, hA5, hK5, hk5, ept5, ?_⟩
            rw [nV_len, List.take_length] at epf5
            show H5 pf = some (.lst (nV ((ts.take (i + 1)).flatMap _)))
            rw [take_more hx, List.flatMap_append, List.flatMap_cons, List.flatMap_nil, List.append_nil]
            exact epf5
        · rintro σ H4 ⟨y5, y6, y7, y8, ks4, rfl, b4, hA4, hK4, hk4, ept, epf⟩
          rw [nV_len] at epf
          have epf' : H4 pf = some (.lst (nV (enoughL ts rs))) := by
            rw [enoughL_eq]
            have : part ts.length = ts.flatMap fun x => (ts.filter fun y => splitB rs (x, y)).map fun y => 1 + max (Enough ts (aheadOf rs x y)) (Enough ts (behindOf rs x y)) := by
              show (ts.take ts.length).flatMap _ = _
              rw [List.take_length]
            rw [← this]
            exact epf
          have hne := Oo.enoughL_ne hT (by omega)
          have hgn : kget ks4 rs = none := kget_none.mpr fun k hk e => by
            rcases hk4 k hk with q | q
            · exact kget_none.mp hg k q e
            · rw [e] at q; omega
          obtain ⟨dx4, e41, e42⟩ := id hA4
          have hkey4 := key_but e32.1 b4 hkey
          refine ⟨_, rfl, pf, (enoughL ts rs).map fun (n : Nat) => (n : Int), rfl, SqL.of (by rw [List.map_map]; exact epf'), by rw [List.length_map]; exact List.length_pos_iff.mpr hne, fun m hm hle => ?_⟩
          have em : m = ((Enough ts rs : Nat) : Int) := by
            rw [Oo.Enough_more c1 (by omega)]
            obtain ⟨m0, hm0, rfl⟩ := List.mem_map.mp hm
            rw [Oo.minOf_is hm0 fun x hx => by have := hle _ (List.mem_map.mpr ⟨x, hx, rfl⟩); omega]
          subst em
          refine ⟨_, rfl, a, C, dx4, _, _, rfl, e41, TA.c.cl, TA.nK, lk_here, _, rfl, kd, kt, ks4, rs, _, rfl, rfl, rfl, e42, hkey4, hgn, hK4.room hL hsub hgn h0, ?_⟩
          refine fin _ _ _ _ _ _ _ (ks4 ++ [(rs, kt, ((Enough ts rs : Nat) : Int))]) (fun b u e nb => ?_) ⟨dx4, ?_, kn_put_at e42 hkey4⟩ (hkey4.same fun b xs e => ?_) (hK4.put hsub hgn h0 kt) (fun k hk => ?_) (kget_snoc hgn)
          · rw [upd_ne nb]
            exact (But.trans (.of s13) b4) b u e nb
          · rw [upd_ne (ne_of e41 e42.1 (fun z => nomatch z))]
            exact e41
          · rw [upd_ne (ne_of e e42.1 (fun z => nomatch z))]
            exact e
          · rcases List.mem_append.mp hk with q | q
            · rcases hk4 k q with q | q
              · exact .inl q
              · exact .inr (by omega)
            · rw [List.mem_singleton.mp q]
              exact .inr (Nat.le_refl _)
end
end OW
namespace OW
open PySem PySem.Spec PyProof.Rows L2 OX
open Or01 (Order things below place isThing step)
open Oo (Good Bel mem_things Enough trip numN)

theorem callT_0 {xs row : List Nat} {c : Or01.Call} (h : Oo.callT 0 xs row = some c) : ∃ x : Nat, xs = [x] ∧ c = .things x := by
  match xs, h with
  | [x], h => exact ⟨x, rfl, (Option.some.inj h).symm⟩
theorem callT_1 {xs row : List Nat} {c : Or01.Call} (h : Oo.callT 1 xs row = some c) : ∃ x y : Nat, xs = [x, y] ∧ c = .less x y := by
  match xs, h with
  | [x, y], h => exact ⟨x, y, rfl, (Option.some.inj h).symm⟩
theorem callT_2 {xs row : List Nat} {c : Or01.Call} (h : Oo.callT 2 xs row = some c) : xs = [] ∧ c = .undo := by
  match xs, h with
  | [], h => exact ⟨rfl, (Option.some.inj h).symm⟩
theorem callT_3 {xs row : List Nat} {c : Or01.Call} (h : Oo.callT 3 xs row = some c) : xs = [] ∧ c = .many := by
  match xs, h with
  | [], h => exact ⟨rfl, (Option.some.inj h).symm⟩
theorem callT_4 {xs row : List Nat} {c : Or01.Call} (h : Oo.callT 4 xs row = some c) : ∃ x : Nat, xs = [x] ∧ c = .nth x := by
  match xs, h with
  | [x], h => exact ⟨x, rfl, (Option.some.inj h).symm⟩
theorem callT_5 {xs row : List Nat} {c : Or01.Call} (h : Oo.callT 5 xs row = some c) : xs = [] ∧ c = .rank row := by
  match xs, h with
  | [], h => exact ⟨rfl, (Option.some.inj h).symm⟩
theorem callT_6 {xs row : List Nat} {c : Or01.Call} (h : Oo.callT 6 xs row = some c) : ∃ x y : Nat, xs = [x, y] ∧ c = .chance x y := by
  match xs, h with
  | [x, y], h => exact ⟨x, y, rfl, (Option.some.inj h).symm⟩
theorem callT_7 {xs row : List Nat} {c : Or01.Call} (h : Oo.callT 7 xs row = some c) : ∃ x y z : Nat, xs = [x, y, z] ∧ c = .both x y z := by
  match xs, h with
  | [x, y, z], h => exact ⟨x, y, z, rfl, (Option.some.inj h).symm⟩
theorem callT_8 {xs row : List Nat} {c : Or01.Call} (h : Oo.callT 8 xs row = some c) : ∃ x : Nat, xs = [x] ∧ c = .spread x := by
  match xs, h with
  | [x], h => exact ⟨x, rfl, (Option.some.inj h).symm⟩
theorem callT_9 {xs row : List Nat} {c : Or01.Call} (h : Oo.callT 9 xs row = some c) : xs = [] ∧ c = .fairest := by
  match xs, h with
  | [], h => exact ⟨rfl, (Option.some.inj h).symm⟩
theorem callT_10 {xs row : List Nat} {c : Or01.Call} (h : Oo.callT 10 xs row = some c) : xs = [] ∧ c = .fewest := by
  match xs, h with
  | [], h => exact ⟨rfl, (Option.some.inj h).symm⟩
theorem callT_11 {xs row : List Nat} {c : Or01.Call} (h : Oo.callT 11 xs row = some c) : xs = [] ∧ c = .next := by
  match xs, h with
  | [], h => exact ⟨rfl, (Option.some.inj h).symm⟩
theorem callT_12 {xs row : List Nat} {c : Or01.Call} (h : Oo.callT 12 xs row = some c) : xs = [] ∧ c = .likely := by
  match xs, h with
  | [], h => exact ⟨rfl, (Option.some.inj h).symm⟩
theorem callT_13 {xs row : List Nat} {c : Or01.Call} (h : Oo.callT 13 xs row = some c) : ∃ x y : Nat, xs = [x, y] ∧ c = .is x y := by
  match xs, h with
  | [x, y], h => exact ⟨x, y, rfl, (Option.some.inj h).symm⟩
theorem same_of_but {kd : Addr} {H H1 H2 : Hp} (s : Same H H1) (n : H kd = none) (b : But kd H1 H2) : Same H H2 := fun c u e => b c u (s c u e) (ne_of_none e n)
section
variable {P : Program} {w : World} {K : PySem.W.Frag} {mg : Str → Option Value} {base : Heap} {C CA : Addr}
/-! ### fewest -/
abbrev sFewest : Stmt := topS 36
theorem scFewest : FnScope ["order"] ["order"] (defScope sFewest) := ⟨rfl, rfl, rfl, by decide +kernel, rfl, by decide +kernel, by decide +kernel⟩
theorem c_fewest (T : OrdX K mg C) (TA : AskX K mg CA) (G : Gn mg) (Al : Cal P w K mg base "all_rows" 2 ["order"] (spAll C)) (En : Cal P w K mg base "enough_for" 28 ["asking", "rows"] (spEnough P w CA 24)) (D : DefX K mg "fewest" sFewest ["order"]) : Cal P w K mg base "fewest" 29 ["order"] (spC C (R0 .fewest)) := by
  refine D.cal fun f fd F => ?_
  obtain ⟨fi, fdi, FI, M, bI⟩ := TA.c.ini
  have GI : FnOk P w K mg base CX0 1 fi fdi ["self"] (spAInit P w CA) := ok_ainit TA FI
  refine F.ok scFewest (fun vs H Q E h => ?_) (fun cdv A outer s H vs Q E hr h => ?_)
  · obtain ⟨a, t, o, ws, c, rfl, ⟨rfl, _⟩, _⟩ := h
    rfl
  · obtain ⟨a, t, o, ws, c, rfl, ⟨rfl, rfl⟩, hO, g, hl, k⟩ := h
    have hr2 := hr.mono (j := 2) (by decide)
    obtain ⟨tk, h4⟩ := G.four
    obtain ⟨dx, h1, h2⟩ := id hO
    refine ⟨_, pss_cons (ps_if (pt_cmpR op_gt (pe_fld (pv 0) rfl) (pe_glob rfl h4 (v := .int 4) ⟨_, rfl⟩) (nomark _)) (pss_one (ps_ret (pe_lst (pa_cons (pe_un un_neg pe_int) pa_nil)))) pss_nil)
      (pss_one (ps_ret (pe_lst (pa_cons (pe_cal En hr (by rfl) (pa_cons (pe_make0 M GI hr2 (by rfl) TA.c.gC bI .nil pass0) (pa_cons (pe_cal Al hr2 (by rfl) (pa_cons (pv 0) pa_nil)) pa_nil))) pa_nil)))), ?_⟩
    refine ⟨_, rfl, a, C, dx, _, _, rfl, h1, T.c.cl, T.nM, ordF_many _ _, _, _, rfl, rfl, _, rfl, ?_⟩
    by_cases c : 4 < o.many
    · refine Toy.if_true_of (decide_eq_true (by omega)) ⟨_, rfl, (by show 1 ≤ sizeLine; decide), fun p np => ?_⟩
      have es : step o .fewest = (o, [-5]) := by
        show (o, if 4 < o.many then _ else _) = _
        rw [if_pos c]
      rw [es] at k
      exact k _ p (ans_same (same_upd np) hO np upd_same)
    · refine Toy.if_false_of (decide_eq_false (by omega)) ?_
      have h4 : o.many ≤ 4 := by omega
      have es : step o .fewest = (o, Or01.ints [Enough (things o) (Or01.rows o)]) := by
        show (o, if 4 < o.many then _ else _) = _
        rw [if_neg c, Oo.fewest_six g h4]
      rw [es] at k
      refine fun x dy nx ny ne => ⟨x, dy, rfl, upd_same, fun kd nkd => ⟨rfl, ?_⟩⟩
      have hkx : kd ≠ x := fun e => by rw [e, upd_same] at nkd; cases nkd
      have nk1 : upd H dy (.own x) kd = none := by rw [upd_ne hkx] at nkd; exact nkd
      have hky : kd ≠ dy := fun e => by rw [e, upd_same] at nk1; cases nk1
      have nk2 : H kd = none := by rw [upd_ne hky] at nk1; exact nk1
      have s1 : Same H (upd (upd (upd (upd H dy (.own x)) x (.ins CA dy [])) kd (KnO P w kd [])) x (.ins CA dy [("known", .ref kd)])) := fun b u e => by
        rw [upd_ne (ne_of_none e nx), upd_ne (ne_of_none e nk2), upd_ne (ne_of_none e nx), upd_ne (ne_of_none e ny)]
        exact e
      have hA1 : AskAt P w CA (upd (upd (upd (upd H dy (.own x)) x (.ins CA dy [])) kd (KnO P w kd [])) x (.ins CA dy [("known", .ref kd)])) x kd [] := by
        refine ⟨dy, upd_same, ?_, fun _ h => (nomatch h)⟩
        rw [upd_ne hkx, upd_same]
      refine ⟨_, rfl, a, t, o, rfl, hO.same s1, g, fun H3 pr s3 hR => ?_⟩
      have h24 := Oo.rows_four h4
      refine ⟨x, pr, kd, [], Or01.rows o, Or01.rows o, things o, rfl, hA1.same s3, hR.rows, Oo.good_rows, Oo.things_lt o, by rw [Oo.things_len]; omega, Oo.rows_ne g, h24, ⟨fun _ h => (nomatch h), List.nodup_nil, fun _ h => (nomatch h)⟩, List.Sublist.refl _, h24, fun H5 ks5 b5 hA5 hK5 hk5 => ?_⟩
      have s5 := same_of_but (s1.trans s3) nk2 b5
      refine ⟨(by show 1 ≤ sizeLine; decide), fun p np => ?_⟩
      exact k _ p (ans_same (s5.trans (same_upd np)) hO (s5.free np) upd_same)
/-! ### parted -/
abbrev sParted : Stmt := topS 43
theorem scParted : FnScope ["calls", "found", "at", "behind", "end"] ["calls"] (defScope sParted) := ⟨rfl, rfl, rfl, by decide +kernel, rfl, by decide +kernel, by decide +kernel⟩
/-- the tuple NUMBERS -/
def NumsX (K : PySem.W.Frag) (mg : Str → Option Value) : Prop := ∃ aN : Addr, mg "NUMBERS" = some (.ref aN) ∧ ∀ H : Hp, SqT K H aN (nV numN)
def TripAt (N H : Hp) (p q : Addr) (c : List (List Int)) : Prop := q ≠ p ∧ N q = none ∧ ∃ g r, g ≠ p ∧ r ≠ p ∧ N g = none ∧ N r = none ∧ H q = some (.tup [.int (trip c).1, .ref g, .ref r]) ∧ H g = some (.lst (iV (trip c).2.1)) ∧ H r = some (.lst (iV (trip c).2.2))
def TripsAt (N H : Hp) (p : Addr) (qs : List Addr) (cs : List (List (List Int))) : Prop := H p = some (.lst (qs.map V.ref)) ∧ Paired (TripAt N H p) qs cs
theorem TripAt.same {N H H' : Hp} {p q : Addr} {c : List (List Int)} (h : TripAt N H p q c) (s : Same H H') : TripAt N H' p q c := by
  obtain ⟨h1, h2, g, r, h3, h4, h5, h6, h7, h8, h9⟩ := h
  exact ⟨h1, h2, g, r, h3, h4, h5, h6, s _ _ h7, s _ _ h8, s _ _ h9⟩
theorem TripsAt.same {N H H' : Hp} {p : Addr} {qs : List Addr} {cs : List (List (List Int))} (h : TripsAt N H p qs cs) (s : Same H H') : TripsAt N H' p qs cs := ⟨s _ _ h.1, paired_mono (fun _ _ e => e.same s) h.2⟩
theorem TripsAt.put {N H : Hp} {p q : Addr} {qs : List Addr} {cs : List (List (List Int))} {c : List (List Int)} (h : TripsAt N H p qs cs) (t : TripAt N H p q c) : TripsAt N (upd H p (.lst (qs.map V.ref ++ [.ref q]))) p (qs ++ [q]) (cs ++ [c]) := by
  have mv : ∀ (o : HO) {q c}, TripAt N H p q c → TripAt N (upd H p o) p q c := fun o {q c} ⟨h1, h2, g, r, h3, h4, h5, h6, h7, h8, h9⟩ => ⟨h1, h2, g, r, h3, h4, h5, h6, by rw [upd_ne h1]; exact h7, by rw [upd_ne h3]; exact h8, by rw [upd_ne h4]; exact h9⟩
  refine ⟨?_, paired_snoc (F := TripAt N (upd H p (.lst (qs.map V.ref ++ [.ref q]))) p) (mv _ t) (paired_mono (fun _ _ e => mv _ e) h.2)⟩
  rw [upd_same, List.map_append]
  rfl
theorem iV_len (l : List Int) : (iV l).length = l.length := List.length_map _
theorem iV_get {l : List Int} {i : Nat} {z : Int} (h : l[i]? = some z) : (iV l)[i]? = some (.int z) := by
  unfold iV
  rw [List.getElem?_map, h]
  rfl
theorem cut_iV {l : List Int} {u v : Nat} (hv : v ≤ l.length) : cutV (iV l) (some (u : Int)) (some (v : Int)) = iV ((l.drop u).take (v - u)) := by
  unfold cutV
  rw [HT.sIx_nat, HT.sIx_nat, iV_len, Nat.min_eq_left hv]
  unfold iV
  rw [← List.map_drop, ← List.map_take]
  congr 1
  by_cases hu : u ≤ l.length
  · rw [Nat.min_eq_left hu]
  · rw [Nat.min_eq_right (by omega), List.drop_of_length_le (Nat.le_refl _), List.drop_of_length_le (by omega), List.take_nil, List.take_nil]
def spParted (K : PySem.W.Frag) : Sp := fun vs H Q _ => ∃ (a : Addr) (l : List Int) (raw : List (List (List Int))), vs = [.ref a] ∧ SqL K H a (iV l) ∧ l.length ≤ 2000 ∧ PyFlat.calls PyOr01.shape l.length l = some raw ∧ raw.length ≤ 100 ∧
  ∀ (H' : Hp) (p : Addr) (qs : List Addr), Same H H' → H p = none → TripsAt H H' p qs raw → Q (.ref p) H'
theorem c_parted (B : Bn mg) (G : Gn mg) (NX : NumsX K mg) (D : DefX K mg "parted" sParted ["calls"]) : Cal P w K mg base "parted" 1 ["calls"] (spParted K) := by
  refine D.cal fun f fd F => ?_
  refine F.ok scParted (fun vs H Q E h => ?_) (fun cdv A outer s H vs Q E hr h => ?_)
  · obtain ⟨a, l, raw, rfl, _⟩ := h
    rfl
  · obtain ⟨a, l, raw, rfl, hS, hl, hraw, hrl, k⟩ := h
    have nd := scParted.nd
    obtain ⟨tk, h5⟩ := G.five
    obtain ⟨aN, hN, hNs⟩ := NX
    refine ⟨_, pss_cons (ps_set (i := 1) nd rfl (.inl rfl) (pe_lst pa_nil))
      (pss_cons (ps_set (i := 2) nd rfl (.inl rfl) pe_int)
      (pss_cons (ps_while PassesOwn.never (pt_cmpR op_lt (pv 2) (pe_callB call_len_seq (by rfl) B.len PySem.boot_len (pa_cons (pv 0) pa_nil)) (nomark _))
        (pss_cons (ps_set (i := 3) nd rfl (.inl rfl) (pe_op op_add (pe_op op_add (pv 2) pe_int) (pe_ix ix_tup (pe_glob rfl hN (v := .ref aN) rfl) (pe_ix ix_list (pv 0) (pv 2) (fun _ _ => rfl)) (fun _ _ => rfl))))
        (pss_cons (ps_set (i := 4) nd rfl (.inl rfl) (pv 3))
        (pss_cons (ps_if (pt_cmpR op_eq (pe_ix ix_list (pv 0) (pv 2) (fun _ _ => rfl)) (pe_glob rfl h5 (v := .int 5) ⟨_, rfl⟩) (nomark _))
          (pss_one (ps_set (i := 4) nd rfl (.inl rfl) (pe_op op_add (pe_op op_add (pv 3) pe_int) (pe_ix ix_list (pv 0) (pv 3) (fun _ _ => rfl))))) pss_nil)
        (pss_cons (ps_expr (pe_bm PySem.F.plainAttrs_list PySem.F.slot_list_append PySem.F.type_list_append mt_append (pv 1) (pa_cons
          (pe_tup (pa_cons (pe_ix ix_list (pv 0) (pv 2) (fun _ _ => rfl)) (pa_cons (pe_slice sl_list (pv 0) (po_some (pe_op op_add (pv 2) pe_int)) (po_some (pv 3))) (pa_cons (pe_slice sl_list (pv 0) (po_some (pe_op op_add (pv 3) pe_int)) (po_some (pv 4))) pa_nil)))) pa_nil)))
        (pss_one (ps_set (i := 2) nd rfl (.inl rfl) (pv 4))))))))
      (pss_one (ps_ret (pv 1))))), ?_⟩
    refine ⟨Nat.zero_le _, fun pf nf => ?_⟩
    have s0 : Same H (upd H pf (.lst [])) := same_upd nf
    refine ⟨fun m σ H' => ∃ (n : Nat) (y3 y4 : Option V) (qs : List Addr) (done rest : List (List (List Int))) (fu : Nat), σ = [some (.ref a), some (.ref pf), some (.int (n : Nat)), y3, y4] ∧ Same H H' ∧ n ≤ l.length ∧ m = l.length - n ∧ PyFlat.calls PyOr01.shape fu (l.drop n) = some rest ∧ done ++ rest = raw ∧ TripsAt H H' pf qs done,
      ⟨_, 0, none, none, [], [], raw, l.length, rfl, s0, Nat.zero_le _, rfl, hraw, rfl, upd_same, .nil⟩, ?_⟩
    rintro m σ H1 ⟨n, y3, y4, qs, done, rest, fu, rfl, s1, hn, rfl, hrest, hraw', hT⟩
    have hS1 := s1.seq hS
    refine ⟨_, rfl, _, rfl, a, _, rfl, .inl hS1, _, _, rfl, rfl, _, rfl, ?_⟩
    rw [iV_len]
    by_cases hlt : n < l.length
    · refine Toy.if_true_of (decide_eq_true (by omega)) ?_
      rcases Oo.calls_cons hrest with ⟨e, _⟩ | ⟨f', c, t, r', hc, rfl, hrest'⟩
      · have := congrArg List.length e
        rw [List.length_drop] at this
        simp at this
        omega
      obtain ⟨i, nn, r, hdrop, hi, hnn, hr', hcase⟩ := Oo.call_one hc
      have hdl : (l.drop n).length = l.length - n := List.length_drop
      have hrd : r = l.drop (n + 1) := by
        have := congrArg List.tail hdrop
        rw [List.tail_drop] at this
        exact this.symm
      have hrlen : r.length = l.length - (n + 1) := by rw [hrd, List.length_drop]
      have hli : l[n]? = some ((i : Nat) : Int) := by
        have := congrArg (fun z => z[0]?) hdrop
        simp only [List.getElem?_drop, Nat.add_zero, List.getElem?_cons_zero] at this
        exact this
      have hget : (iV l)[n]? = some (.int ((i : Nat) : Int)) := iV_get hli
      have eb : ((n : Int) + 1 + (nn : Int)) = ((n + 1 + nn : Nat) : Int) := by omega
      have en1 : ((n : Int) + 1) = ((n + 1 : Nat) : Int) := by omega
      refine ⟨fun σ' H' => ∃ (n' : Nat) (y3 y4 : Option V) (qs : List Addr) (done rest : List (List (List Int))) (fu : Nat), σ' = [some (.ref a), some (.ref pf), some (.int (n' : Nat)), y3, y4] ∧ Same H H' ∧ n' ≤ l.length ∧ l.length - n' < l.length - n ∧ PyFlat.calls PyOr01.shape fu (l.drop n') = some rest ∧ done ++ rest = raw ∧ TripsAt H H' pf qs done,
        fun σ' H' ⟨n', y3, y4, qs, dn, rs, fu, e1, e2, e3, e4, e5, e6, e7⟩ => ⟨_, e4, n', y3, y4, qs, dn, rs, fu, e1, e2, e3, rfl, e5, e6, e7⟩, ?_⟩
      -- behind = at + 1 + NUMBERS[calls[at]]
      refine ⟨_, rfl, _, _, rfl, rfl, _, rfl, _, rfl, a, _, _, _, rfl, rfl, hS1, atI_nat hget, aN, _, _, .int (nn : Nat), rfl, rfl, hNs H1, atI_nat (by unfold nV; rw [List.getElem?_map, hnn]; rfl), _, _, rfl, rfl, ?_⟩
      -- end = behind
      refine ⟨_, rfl, ?_⟩
      -- if calls[at] == RANK
      refine ⟨_, rfl, _, rfl, a, _, _, _, rfl, rfl, hS1, atI_nat hget, rfl, _, rfl, ?_⟩
      -- the rest of the turn
      have rest_ : ∀ (en : Nat) (c' : List (List Int)), n + 1 + nn ≤ l.length → en ≤ l.length → n + 1 + nn ≤ en → trip c' = ((i : Int), (l.drop (n + 1)).take nn, (l.drop (n + 1 + nn + 1)).take (en - (n + 1 + nn + 1))) → c' = c → l.drop en = t →
          tSeq (tDrop (tBM K "list" rAppend (tVar 1) (tCons (tTup (tCons (tOp (rIxL K) (tVar 0) (tVar 2)) (tCons (tSl (rSlL K) (tVar 0) (tPart (tOp (rI0 fun i j => .int (i + j)) (tVar 2) (tC (.int 1)))) (tPart (tVar 3))) (tCons (tSl (rSlL K) (tVar 0) (tPart (tOp (rI0 fun i j => .int (i + j)) (tVar 3) (tC (.int 1)))) (tPart (tVar 4))) tNil)))) tNil))) (tAsg (tVar 4) (gName 2))
            { nx := fun σ' H' => ∃ (n' : Nat) (y3 y4 : Option V) (qs : List Addr) (done rest : List (List (List Int))) (fu : Nat), σ' = [some (.ref a), some (.ref pf), some (.int (n' : Nat)), y3, y4] ∧ Same H H' ∧ n' ≤ l.length ∧ l.length - n' < l.length - n ∧ PyFlat.calls PyOr01.shape fu (l.drop n') = some rest ∧ done ++ rest = raw ∧ TripsAt H H' pf qs done, rt := Q,
              ct := fun σ' H' => ∃ (n' : Nat) (y3 y4 : Option V) (qs : List Addr) (done rest : List (List (List Int))) (fu : Nat), σ' = [some (.ref a), some (.ref pf), some (.int (n' : Nat)), y3, y4] ∧ Same H H' ∧ n' ≤ l.length ∧ l.length - n' < l.length - n ∧ PyFlat.calls PyOr01.shape fu (l.drop n') = some rest ∧ done ++ rest = raw ∧ TripsAt H H' pf qs done, bk := fun _ _ => False }
            [some (.ref a), some (.ref pf), some (.int (n : Nat)), some (.int ((n + 1 + nn : Nat) : Int)), some (.int (en : Nat))] H1 := fun en c' hb hen hbe htr ecc hdt => by
        subst ecc
        refine ⟨_, rfl, .inl ⟨rfl, _, SqL.of hT.1⟩, ?_⟩
        refine ⟨_, rfl, _, rfl, a, _, _, _, rfl, rfl, hS1, atI_nat hget, ?_⟩
        refine ⟨_, rfl, _, rfl, _, _, rfl, rfl, _, rfl, _, rfl, _, rfl, a, _, rfl, hS1, fun g ng => ?_⟩
        have s2 : Same H1 (upd H1 g (.lst (cutV (iV l) (some ((n : Int) + 1)) (some ((n + 1 + nn : Nat) : Int))))) := same_upd ng
        refine ⟨_, rfl, _, rfl, _, _, rfl, rfl, _, rfl, _, rfl, _, rfl, a, _, rfl, s2.seq hS1, fun rr nrr => ?_⟩
        refine ⟨(by show 3 ≤ sizeLine; decide), fun q nq => ?_⟩
        have hgr : g ≠ rr := ne_of_none upd_same nrr
        have ng0 : H1 g = none := ng
        have nr0 : H1 rr = none := s2.free nrr
        have s3 := s2.trans (same_upd nrr (o := .lst (cutV (iV l) (some (((n + 1 + nn : Nat) : Int) + 1)) (some (en : Int)))))
        have nq0 : H1 q = none := s3.free nq
        have s4 := s3.trans (same_upd nq (o := .tup [.int (i : Int), .ref g, .ref rr]))
        have hT4 := hT.same s4
        have npf : ∀ {b : Addr}, H1 b = none → b ≠ pf := fun {b} n0 e => by rw [e, hT.1] at n0; cases n0
        have hqg : g ≠ q := ne_of_none ((same_upd nrr) _ _ upd_same) nq
        have hqr : rr ≠ q := ne_of_none upd_same nq
        refine ⟨pf, _, _, rfl, rfl, hT4.1, ?_, ?_⟩
        · have hpl := paired_len hT.2
          have := congrArg List.length hraw'
          rw [List.length_append] at this
          rw [List.length_map]
          exact small (by omega)
        refine ⟨_, rfl, en, _, _, qs ++ [q], done ++ [c'], r', f', rfl, (s1.trans s4).put nf, hen, by omega, ?_, ?_, ?_⟩
        · rw [hdt]
          exact hrest'
        · rw [List.append_assoc]
          exact hraw'
        · refine hT4.put ⟨npf nq0, s1.free nq0, g, rr, npf ng0, npf nr0, s1.free ng0, s1.free nr0, ?_, ?_, ?_⟩
          · rw [upd_same, htr]
          · rw [upd_ne hqg, upd_ne hgr, upd_same, htr, en1, cut_iV hb]
            show some (HO.lst (iV ((l.drop (n + 1)).take (n + 1 + nn - (n + 1))))) = some (HO.lst (iV ((l.drop (n + 1)).take nn)))
            rw [show n + 1 + nn - (n + 1) = nn by omega]
          · rw [upd_ne hqr, upd_same, htr, show ((n + 1 + nn : Nat) : Int) + 1 = ((n + 1 + nn + 1 : Nat) : Int) by omega, cut_iV hen]
      rcases hcase with ⟨h5i, rfl, rfl⟩ | ⟨h5i, mm, qq, rfl, hmq, rfl, rfl⟩
      · refine Toy.if_false_of (decide_eq_false (fun e => h5i (by have := V.int.inj e; omega))) ?_
        have hb : n + 1 + nn ≤ l.length := by omega
        have htr : trip [(i : Int) :: r.take nn] = ((i : Int), (l.drop (n + 1)).take nn, (l.drop (n + 1 + nn + 1)).take (n + 1 + nn - (n + 1 + nn + 1))) := by
          rw [show n + 1 + nn - (n + 1 + nn + 1) = 0 by omega, List.take_zero, ← hrd]
          rfl
        exact rest_ (n + 1 + nn) _ hb hb (Nat.le_refl _) htr rfl (by rw [hrd, List.drop_drop])
      · subst h5i
        have en0 : nn = 0 := by
          have : numN[5]? = some 0 := rfl
          rw [this] at hnn
          exact (Option.some.inj hnn).symm
        subst en0
        refine Toy.if_true_of (by decide) ?_
        have hqd : qq = l.drop (n + 2) := by
          have := congrArg List.tail hrd
          rw [List.tail_drop] at this
          exact this
        have hmm : l[n + 1]? = some ((mm : Nat) : Int) := by
          have := congrArg (fun z => z[0]?) hrd
          simp only [List.getElem?_drop, Nat.add_zero, List.getElem?_cons_zero] at this
          exact this.symm
        have hql : qq.length = l.length - (n + 2) := by rw [hqd, List.length_drop]
        rw [List.length_cons] at hrlen
        refine ⟨_, rfl, _, _, rfl, rfl, _, rfl, _, rfl, a, _, _, _, rfl, rfl, hS1, atI_nat (j := n + 1) (iV_get hmm), _, _, rfl, rfl, ?_⟩
        have hen : n + 2 + mm ≤ l.length := by omega
        have htr : trip [[5], qq.take mm] = (((5 : Nat) : Int), (l.drop (n + 1)).take 0, (l.drop (n + 1 + 0 + 1)).take (n + 2 + mm - (n + 1 + 0 + 1))) := by
          rw [show n + 2 + mm - (n + 1 + 0 + 1) = mm by omega, List.take_zero, show n + 1 + 0 + 1 = n + 2 by omega, ← hqd]
          rfl
        have ee : V.int (((n + 1 + 0 : Nat) : Int) + 1 + (mm : Int)) = V.int ((n + 2 + mm : Nat) : Int) := congrArg V.int (by omega)
        have fin := rest_ (n + 2 + mm) _ (by omega) hen (by omega) htr rfl (by rw [hqd, List.drop_drop])
        rw [← ee] at fin
        exact fin
    · refine Toy.if_false_of (decide_eq_false (by omega)) ?_
      have hd : l.drop n = [] := List.drop_of_length_le (by omega)
      rw [hd] at hrest
      have e : rest = [] := by
        rcases Oo.calls_cons hrest with ⟨_, e⟩ | ⟨f', c, t, r', hc, _⟩
        · exact e
        · cases hc
      subst e
      rw [List.append_nil] at hraw'
      subst hraw'
      exact ⟨_, rfl, k H1 pf qs s1 nf hT⟩
/-! ### on_rows, on_things -/
def RA : Hp → List V → Or01.Call → Prop := fun H ws c => ∃ (i : Nat) (g r : Addr) (xs row : List Nat), ws = [.int (i : Nat), .ref g, .ref r] ∧ H g = some (.lst (nV xs)) ∧ H r = some (.lst (nV row)) ∧ 1 ≤ i ∧ i ≤ 7 ∧ Oo.callT i xs row = some c
def RB : Hp → List V → Or01.Call → Prop := fun H ws c => ∃ (i : Nat) (g : Addr) (xs : List Nat), ws = [.int (i : Nat), .ref g] ∧ H g = some (.lst (nV xs)) ∧ 8 ≤ i ∧ i ≤ 13 ∧ Oo.callT i xs [] = some c
abbrev s_on_rows : Stmt := topS 44
theorem sc_on_rows : FnScope ["order", "call", "given", "row"] ["order", "call", "given", "row"] (defScope s_on_rows) := ⟨rfl, rfl, rfl, by decide +kernel, rfl, by decide +kernel, by decide +kernel⟩
theorem c_on_rows (c1 : Cal P w K mg base "less" 3 ["order", "one", "other"] (spC C (R2' .less))) (c2 : Cal P w K mg base "undo" 1 ["order"] (spC C (R0 .undo))) (c3 : Cal P w K mg base "many" 3 ["order"] (spC C (R0 .many))) (c4 : Cal P w K mg base "nth" 3 ["order", "number"] (spC C (R1 .nth))) (c5 : Cal P w K mg base "rank" 3 ["order", "row"] (spC C (RR .rank))) (c6 : Cal P w K mg base "chance" 3 ["order", "one", "other"] (spC C (R2' .chance))) (c7 : Cal P w K mg base "both" 3 ["order", "one", "second", "third"] (spC C (R3 .both))) (D : DefX K mg "on_rows" s_on_rows ["order", "call", "given", "row"]) : Cal P w K mg base "on_rows" 4 ["order", "call", "given", "row"] (spC C RA) := by
  refine D.cal fun f fd F => ?_
  refine F.ok sc_on_rows (fun vs H Q E h => ?_) (fun cdv A outer s H vs Q E hr h => ?_)
  · obtain ⟨a, t, o, ws, c, rfl, ⟨i, gg, rr, xs, row, rfl, _⟩, _⟩ := h
    rfl
  · obtain ⟨a, t, o, ws, c, rfl, ⟨i, gg, rr, xs, row, rfl, hg, hw, hlo, hhi, hc⟩, hO, g, hl, k⟩ := h
    refine ⟨_, pss_cons (ps_if (pt_cmpR op_eq (pv 1) pe_int (nomark _)) (pss_one (ps_ret (pe_cal c1 (hr.mono (by decide)) (by rfl) (pa_cons (pv 0) (pa_cons (pe_ix ix_list (pv 2) pe_int (fun _ _ => rfl)) (pa_cons (pe_ix ix_list (pv 2) pe_int (fun _ _ => rfl)) pa_nil)))))) pss_nil)
      (pss_cons (ps_if (pt_cmpR op_eq (pv 1) pe_int (nomark _)) (pss_one (ps_ret (pe_cal c2 (hr.mono (by decide)) (by rfl) (pa_cons (pv 0) pa_nil)))) pss_nil)
      (pss_cons (ps_if (pt_cmpR op_eq (pv 1) pe_int (nomark _)) (pss_one (ps_ret (pe_cal c3 (hr.mono (by decide)) (by rfl) (pa_cons (pv 0) pa_nil)))) pss_nil)
      (pss_cons (ps_if (pt_cmpR op_eq (pv 1) pe_int (nomark _)) (pss_one (ps_ret (pe_cal c4 (hr.mono (by decide)) (by rfl) (pa_cons (pv 0) (pa_cons (pe_ix ix_list (pv 2) pe_int (fun _ _ => rfl)) pa_nil))))) pss_nil)
      (pss_cons (ps_if (pt_cmpR op_eq (pv 1) pe_int (nomark _)) (pss_one (ps_ret (pe_cal c5 (hr.mono (by decide)) (by rfl) (pa_cons (pv 0) (pa_cons (pv 3) pa_nil))))) pss_nil)
      (pss_cons (ps_if (pt_cmpR op_eq (pv 1) pe_int (nomark _)) (pss_one (ps_ret (pe_cal c6 (hr.mono (by decide)) (by rfl) (pa_cons (pv 0) (pa_cons (pe_ix ix_list (pv 2) pe_int (fun _ _ => rfl)) (pa_cons (pe_ix ix_list (pv 2) pe_int (fun _ _ => rfl)) pa_nil)))))) pss_nil)
      (pss_one (ps_ret (pe_cal c7 (hr.mono (by decide)) (by rfl) (pa_cons (pv 0) (pa_cons (pe_ix ix_list (pv 2) pe_int (fun _ _ => rfl)) (pa_cons (pe_ix ix_list (pv 2) pe_int (fun _ _ => rfl)) (pa_cons (pe_ix ix_list (pv 2) pe_int (fun _ _ => rfl)) pa_nil)))))))))))), ?_⟩
    have hi' : i = 1 ∨ i = 2 ∨ i = 3 ∨ i = 4 ∨ i = 5 ∨ i = 6 ∨ i = 7 := by omega
    rcases hi' with rfl | rfl | rfl | rfl | rfl | rfl | rfl
    · obtain ⟨x, y, rfl, rfl⟩ := callT_1 hc
      exact ⟨_, rfl, rfl, _, rfl, Toy.if_true_of rfl ⟨_, rfl, _, rfl, gg, _, _, _, rfl, rfl, SqL.of hg, atI_nat (j := 0) rfl, _, rfl, gg, _, _, _, rfl, rfl, SqL.of hg, atI_nat (j := 1) rfl, a, t, o, _, _, rfl, ⟨x, y, rfl, rfl⟩, hO, g, hl, k⟩⟩
    · obtain ⟨rfl, rfl⟩ := callT_2 hc
      refine ⟨_, rfl, rfl, _, rfl, Toy.if_false_of rfl ?_⟩
      exact ⟨_, rfl, rfl, _, rfl, Toy.if_true_of rfl ⟨_, rfl, a, t, o, _, _, rfl, ⟨rfl, rfl⟩, hO, g, hl, k⟩⟩
    · obtain ⟨rfl, rfl⟩ := callT_3 hc
      refine ⟨_, rfl, rfl, _, rfl, Toy.if_false_of rfl ?_⟩
      refine ⟨_, rfl, rfl, _, rfl, Toy.if_false_of rfl ?_⟩
      exact ⟨_, rfl, rfl, _, rfl, Toy.if_true_of rfl ⟨_, rfl, a, t, o, _, _, rfl, ⟨rfl, rfl⟩, hO, g, hl, k⟩⟩
    · obtain ⟨x, rfl, rfl⟩ := callT_4 hc
      refine ⟨_, rfl, rfl, _, rfl, Toy.if_false_of rfl ?_⟩
      refine ⟨_, rfl, rfl, _, rfl, Toy.if_false_of rfl ?_⟩
      refine ⟨_, rfl, rfl, _, rfl, Toy.if_false_of rfl ?_⟩
      exact ⟨_, rfl, rfl, _, rfl, Toy.if_true_of rfl ⟨_, rfl, _, rfl, gg, _, _, _, rfl, rfl, SqL.of hg, atI_nat (j := 0) rfl, a, t, o, _, _, rfl, ⟨x, rfl, rfl⟩, hO, g, hl, k⟩⟩
    · obtain ⟨rfl, rfl⟩ := callT_5 hc
      refine ⟨_, rfl, rfl, _, rfl, Toy.if_false_of rfl ?_⟩
      refine ⟨_, rfl, rfl, _, rfl, Toy.if_false_of rfl ?_⟩
      refine ⟨_, rfl, rfl, _, rfl, Toy.if_false_of rfl ?_⟩
      refine ⟨_, rfl, rfl, _, rfl, Toy.if_false_of rfl ?_⟩
      exact ⟨_, rfl, rfl, _, rfl, Toy.if_true_of rfl ⟨_, rfl, _, rfl, a, t, o, _, _, rfl, ⟨rr, row, rfl, hw, rfl⟩, hO, g, hl, k⟩⟩
    · obtain ⟨x, y, rfl, rfl⟩ := callT_6 hc
      refine ⟨_, rfl, rfl, _, rfl, Toy.if_false_of rfl ?_⟩
      refine ⟨_, rfl, rfl, _, rfl, Toy.if_false_of rfl ?_⟩
      refine ⟨_, rfl, rfl, _, rfl, Toy.if_false_of rfl ?_⟩
      refine ⟨_, rfl, rfl, _, rfl, Toy.if_false_of rfl ?_⟩
      refine ⟨_, rfl, rfl, _, rfl, Toy.if_false_of rfl ?_⟩
      exact ⟨_, rfl, rfl, _, rfl, Toy.if_true_of rfl ⟨_, rfl, _, rfl, gg, _, _, _, rfl, rfl, SqL.of hg, atI_nat (j := 0) rfl, _, rfl, gg, _, _, _, rfl, rfl, SqL.of hg, atI_nat (j := 1) rfl, a, t, o, _, _, rfl, ⟨x, y, rfl, rfl⟩, hO, g, hl, k⟩⟩
    · obtain ⟨x, y, z, rfl, rfl⟩ := callT_7 hc
      refine ⟨_, rfl, rfl, _, rfl, Toy.if_false_of rfl ?_⟩
      refine ⟨_, rfl, rfl, _, rfl, Toy.if_false_of rfl ?_⟩
      refine ⟨_, rfl, rfl, _, rfl, Toy.if_false_of rfl ?_⟩
      refine ⟨_, rfl, rfl, _, rfl, Toy.if_false_of rfl ?_⟩
      refine ⟨_, rfl, rfl, _, rfl, Toy.if_false_of rfl ?_⟩
      refine ⟨_, rfl, rfl, _, rfl, Toy.if_false_of rfl ?_⟩
      exact ⟨_, rfl, _, rfl, gg, _, _, _, rfl, rfl, SqL.of hg, atI_nat (j := 0) rfl, _, rfl, gg, _, _, _, rfl, rfl, SqL.of hg, atI_nat (j := 1) rfl, _, rfl, gg, _, _, _, rfl, rfl, SqL.of hg, atI_nat (j := 2) rfl, a, t, o, _, _, rfl, ⟨x, y, z, rfl, rfl⟩, hO, g, hl, k⟩
abbrev s_on_things : Stmt := topS 45
theorem sc_on_things : FnScope ["order", "call", "given"] ["order", "call", "given"] (defScope s_on_things) := ⟨rfl, rfl, rfl, by decide +kernel, rfl, by decide +kernel, by decide +kernel⟩
theorem c_on_things (c8 : Cal P w K mg base "spread" 4 ["order", "thing"] (spC C (R1 .spread))) (c9 : Cal P w K mg base "fairest" 4 ["order"] (spC C (R0 .fairest))) (c10 : Cal P w K mg base "fewest" 29 ["order"] (spC C (R0 .fewest))) (c11 : Cal P w K mg base "next_pairs" 4 ["order"] (spC C (R0 .next))) (c12 : Cal P w K mg base "likely" 3 ["order"] (spC C (R0 .likely))) (c13 : Cal P w K mg base "is_below" 3 ["order", "one", "other"] (spC C (R2' .is))) (D : DefX K mg "on_things" s_on_things ["order", "call", "given"]) : Cal P w K mg base "on_things" 30 ["order", "call", "given"] (spC C RB) := by
  refine D.cal fun f fd F => ?_
  refine F.ok sc_on_things (fun vs H Q E h => ?_) (fun cdv A outer s H vs Q E hr h => ?_)
  · obtain ⟨a, t, o, ws, c, rfl, ⟨i, gg, xs, rfl, _⟩, _⟩ := h
    rfl
  · obtain ⟨a, t, o, ws, c, rfl, ⟨i, gg, xs, rfl, hg, hlo, hhi, hc⟩, hO, g, hl, k⟩ := h
    refine ⟨_, pss_cons (ps_if (pt_cmpR op_eq (pv 1) pe_int (nomark _)) (pss_one (ps_ret (pe_cal c8 (hr.mono (by decide)) (by rfl) (pa_cons (pv 0) (pa_cons (pe_ix ix_list (pv 2) pe_int (fun _ _ => rfl)) pa_nil))))) pss_nil)
      (pss_cons (ps_if (pt_cmpR op_eq (pv 1) pe_int (nomark _)) (pss_one (ps_ret (pe_cal c9 (hr.mono (by decide)) (by rfl) (pa_cons (pv 0) pa_nil)))) pss_nil)
      (pss_cons (ps_if (pt_cmpR op_eq (pv 1) pe_int (nomark _)) (pss_one (ps_ret (pe_cal c10 (hr.mono (by decide)) (by rfl) (pa_cons (pv 0) pa_nil)))) pss_nil)
      (pss_cons (ps_if (pt_cmpR op_eq (pv 1) pe_int (nomark _)) (pss_one (ps_ret (pe_cal c11 (hr.mono (by decide)) (by rfl) (pa_cons (pv 0) pa_nil)))) pss_nil)
      (pss_cons (ps_if (pt_cmpR op_eq (pv 1) pe_int (nomark _)) (pss_one (ps_ret (pe_cal c12 (hr.mono (by decide)) (by rfl) (pa_cons (pv 0) pa_nil)))) pss_nil)
      (pss_one (ps_ret (pe_cal c13 (hr.mono (by decide)) (by rfl) (pa_cons (pv 0) (pa_cons (pe_ix ix_list (pv 2) pe_int (fun _ _ => rfl)) (pa_cons (pe_ix ix_list (pv 2) pe_int (fun _ _ => rfl)) pa_nil)))))))))), ?_⟩
    have hi' : i = 8 ∨ i = 9 ∨ i = 10 ∨ i = 11 ∨ i = 12 ∨ i = 13 := by omega
    rcases hi' with rfl | rfl | rfl | rfl | rfl | rfl
    · obtain ⟨x, rfl, rfl⟩ := callT_8 hc
      exact ⟨_, rfl, rfl, _, rfl, Toy.if_true_of rfl ⟨_, rfl, _, rfl, gg, _, _, _, rfl, rfl, SqL.of hg, atI_nat (j := 0) rfl, a, t, o, _, _, rfl, ⟨x, rfl, rfl⟩, hO, g, hl, k⟩⟩
    · obtain ⟨rfl, rfl⟩ := callT_9 hc
      refine ⟨_, rfl, rfl, _, rfl, Toy.if_false_of rfl ?_⟩
      exact ⟨_, rfl, rfl, _, rfl, Toy.if_true_of rfl ⟨_, rfl, a, t, o, _, _, rfl, ⟨rfl, rfl⟩, hO, g, hl, k⟩⟩
    · obtain ⟨rfl, rfl⟩ := callT_10 hc
      refine ⟨_, rfl, rfl, _, rfl, Toy.if_false_of rfl ?_⟩
      refine ⟨_, rfl, rfl, _, rfl, Toy.if_false_of rfl ?_⟩
      exact ⟨_, rfl, rfl, _, rfl, Toy.if_true_of rfl ⟨_, rfl, a, t, o, _, _, rfl, ⟨rfl, rfl⟩, hO, g, hl, k⟩⟩
    · obtain ⟨rfl, rfl⟩ := callT_11 hc
      refine ⟨_, rfl, rfl, _, rfl, Toy.if_false_of rfl ?_⟩
      refine ⟨_, rfl, rfl, _, rfl, Toy.if_false_of rfl ?_⟩
      refine ⟨_, rfl, rfl, _, rfl, Toy.if_false_of rfl ?_⟩
      exact ⟨_, rfl, rfl, _, rfl, Toy.if_true_of rfl ⟨_, rfl, a, t, o, _, _, rfl, ⟨rfl, rfl⟩, hO, g, hl, k⟩⟩
    · obtain ⟨rfl, rfl⟩ := callT_12 hc
      refine ⟨_, rfl, rfl, _, rfl, Toy.if_false_of rfl ?_⟩
      refine ⟨_, rfl, rfl, _, rfl, Toy.if_false_of rfl ?_⟩
      refine ⟨_, rfl, rfl, _, rfl, Toy.if_false_of rfl ?_⟩
      refine ⟨_, rfl, rfl, _, rfl, Toy.if_false_of rfl ?_⟩
      exact ⟨_, rfl, rfl, _, rfl, Toy.if_true_of rfl ⟨_, rfl, a, t, o, _, _, rfl, ⟨rfl, rfl⟩, hO, g, hl, k⟩⟩
    · obtain ⟨x, y, rfl, rfl⟩ := callT_13 hc
      refine ⟨_, rfl, rfl, _, rfl, Toy.if_false_of rfl ?_⟩
      refine ⟨_, rfl, rfl, _, rfl, Toy.if_false_of rfl ?_⟩
      refine ⟨_, rfl, rfl, _, rfl, Toy.if_false_of rfl ?_⟩
      refine ⟨_, rfl, rfl, _, rfl, Toy.if_false_of rfl ?_⟩
      refine ⟨_, rfl, rfl, _, rfl, Toy.if_false_of rfl ?_⟩
      exact ⟨_, rfl, _, rfl, gg, _, _, _, rfl, rfl, SqL.of hg, atI_nat (j := 0) rfl, _, rfl, gg, _, _, _, rfl, rfl, SqL.of hg, atI_nat (j := 1) rfl, a, t, o, _, _, rfl, ⟨x, y, rfl, rfl⟩, hO, g, hl, k⟩
end
end OW
namespace OW
open PySem PySem.Spec PyProof.Rows L2 OX
open Or01 (Order things below place isThing step)
open Oo (Good Bel mem_things Enough trip numN playO)
/-- found.append(len(answer)); found.extend(answer) -/
theorem tail_ok {K : PySem.W.Frag} {pf pa : Addr} {H5 : Hp} {fnd ans : List Int} {D : Ends} {σ : L2.St} (e1 : H5 pf = some (.lst (iV fnd))) (e2 : H5 pa = some (.lst (iV ans))) (ne : pa ≠ pf) (hl : fnd.length + ans.length ≤ 2000000) (h1 : σ[1]? = some (some (.ref pf))) (h6 : σ[6]? = some (some (.ref pa)))
    (k : ∀ H6, But pf H5 H6 → H6 pf = some (.lst (iV (fnd ++ ((ans.length : Int) :: ans)))) → D.nx σ H6) :
    tSeq (tDrop (tBM K "list" rAppend (tVar 1) (tCons (tCB (fun xs H Q => ∃ p ys, xs = [.ref p] ∧ (SqL K H p ys ∨ SqT K H p ys) ∧ Q (.int ys.length) H) (tCons (tVar 6) tNil)) tNil)))
      (tDrop (tBM K "list" rExtend (tVar 1) (tCons (tVar 6) tNil))) D σ H5 := by
  refine ⟨_, h1, .inl ⟨rfl, _, SqL.of e1⟩, _, h6, pa, _, rfl, .inl (SqL.of e2), pf, _, _, rfl, rfl, e1, small (by rw [iV_len]; omega), ?_⟩
  have e2' : (upd H5 pf (.lst (iV fnd ++ [V.int ((iV ans).length : Nat)]))) pa = some (.lst (iV ans)) := by rw [upd_ne ne]; exact e2
  refine ⟨_, h1, .inl ⟨rfl, _, SqL.of upd_same⟩, _, h6, pf, pa, _, _, rfl, rfl, upd_same, e2', by rw [List.length_append, List.length_singleton, iV_len, iV_len, sizeLine_eq]; omega, ?_⟩
  refine k _ (fun b u e nb => ?_) ?_
  · rw [upd_ne nb, upd_ne nb]
    exact e
  · rw [upd_same, iV_len]
    unfold iV
    rw [List.map_append, List.append_assoc]
    rfl
theorem callsAre_get {cs : List (List (List Int))} {xs : List Or01.Call} (h : Oo.CallsAre cs xs) : ∀ {i : Nat} {c : List (List Int)}, cs[i]? = some c → ∃ x, xs[i]? = some x ∧ Oo.CallIs c x := by
  induction h with
  | nil => intro i c e; simp at e
  | cons hc _ ih =>
    intro i c e
    cases i with
    | zero =>
      simp at e
      subst e
      exact ⟨_, rfl, hc⟩
    | succ i =>
      rw [List.getElem?_cons_succ] at e
      rw [List.getElem?_cons_succ]
      exact ih e
theorem play_turn {o : Order} {xs : List Or01.Call} {i : Nat} {x : Or01.Call} (h : xs[i]? = some x) : playO o (xs.drop i) = (((step o x).2.length : Int) :: (step o x).2) ++ playO (step o x).1 (xs.drop (i + 1)) := by
  have hi := (List.getElem?_eq_some_iff.mp h).1
  have e : xs.drop i = x :: xs.drop (i + 1) := by
    rw [List.drop_eq_getElem_cons hi]
    congr 1
    exact (List.getElem?_eq_some_iff.mp h).2
  rw [e]
  rfl
theorem callT_lt {i : Nat} {xs row : List Nat} {c : Or01.Call} (h : Oo.callT i xs row = some c) : i ≤ 13 := by
  apply Classical.byContradiction
  intro n
  obtain ⟨j, rfl⟩ : ∃ j, i = j + 14 := ⟨i - 14, by omega⟩
  cases h
theorem callT_row {i : Nat} {xs row : List Nat} {c : Or01.Call} (hi : 8 ≤ i) (h : Oo.callT i xs row = some c) : Oo.callT i xs [] = some c := by
  have h13 := callT_lt h
  have hi' : i = 8 ∨ i = 9 ∨ i = 10 ∨ i = 11 ∨ i = 12 ∨ i = 13 := by omega
  rcases hi' with rfl | rfl | rfl | rfl | rfl | rfl
  · obtain ⟨x, rfl, rfl⟩ := callT_8 h; rfl
  · obtain ⟨rfl, rfl⟩ := callT_9 h; rfl
  · obtain ⟨rfl, rfl⟩ := callT_10 h; rfl
  · obtain ⟨rfl, rfl⟩ := callT_11 h; rfl
  · obtain ⟨rfl, rfl⟩ := callT_12 h; rfl
  · obtain ⟨x, y, rfl, rfl⟩ := callT_13 h; rfl
section
variable {P : Program} {w : World} {K : PySem.W.Frag} {mg : Str → Option Value} {base : Heap} {C : Addr}
/-! ### answers -/
abbrev sAns : Stmt := topS 46
theorem scAns : FnScope ["calls", "found", "order", "call", "given", "row", "answer"] ["calls"] (defScope sAns) := ⟨rfl, rfl, rfl, by decide +kernel, rfl, by decide +kernel, by decide +kernel⟩
def spAns (K : PySem.W.Frag) : Sp := fun vs H Q _ => ∃ (a : Addr) (l : List Int), vs = [.ref a] ∧ SqL K H a (iV l) ∧ l.length ≤ 1260 ∧ PyOr01.answers_asked l = true ∧
  ∀ (H' : Hp) (p : Addr), H' p = some (.lst (iV (PyOr01.answers l))) → Q (.ref p) H'
theorem ok_answers {f : Addr} {fd : FuncData} (B : Bn mg) (Nw : Cal P w K mg base "new_order" 3 ["many"] (spNew C)) (Pt : Cal P w K mg base "parted" 1 ["calls"] (spParted K)) (Is : Cal P w K mg base "is_number" 1 ["many"] spIsNum)
    (OR : Cal P w K mg base "on_rows" 4 ["order", "call", "given", "row"] (spC C RA)) (OT : Cal P w K mg base "on_things" 30 ["order", "call", "given"] (spC C RB)) (F : Fun K "answers" "answers" sAns f fd) : FnOk P w K mg base CX0 31 f fd ["calls"] (spAns K) := by
  refine F.ok scAns (fun vs H Q E h => ?_) (fun cdv A outer s H vs Q E hr h => ?_)
  · obtain ⟨a, l, rfl, _⟩ := h
    rfl
  · obtain ⟨a, l, rfl, hS, hl, hask, k⟩ := h
    have nd := scAns.nd
    refine ⟨_, pss_cons (ps_set (i := 1) nd rfl (.inl rfl) (pe_lst pa_nil))
      (pss_cons (ps_set (i := 2) nd rfl (.inl rfl) (pe_cal Nw (hr.mono (by decide)) (by rfl) (pa_cons pe_int pa_nil)))
      (pss_cons (ps_for PassesOwn.never rfl (pi_list (pe_cal Pt (hr.mono (by decide)) (by rfl) (pa_cons (pv 0) pa_nil))) (pg_tup rfl (pgs_cons (pg_name (i := 3) nd rfl (.inl rfl)) (pgs_cons (pg_name (i := 4) nd rfl (.inl rfl)) (pgs_cons (pg_name (i := 5) nd rfl (.inl rfl)) pgs_nil))))
        (pss_cons (ps_if (PW.pt (pw_and (pt_cmpR op_eq (pv 3) pe_int (nomark _)) (pw_and1 (pt_not (pt_val (pe_cal Is (hr.mono (by decide)) (by rfl) (pa_cons (pe_ix ix_list (pv 4) pe_int (fun _ _ => rfl)) pa_nil)))))))
            (pss_one (ps_set (i := 6) nd rfl (.inl rfl) (pe_lst (pa_cons (pe_un un_neg pe_int) pa_nil))))
          (pss_one (ps_if (pt_cmpR op_eq (pv 3) pe_int (nomark _))
            (pss_cons (ps_set (i := 2) nd rfl (.inl rfl) (pe_cal Nw (hr.mono (by decide)) (by rfl) (pa_cons (pe_ix ix_list (pv 4) pe_int (fun _ _ => rfl)) pa_nil)))
            (pss_one (ps_set (i := 6) nd rfl (.inl rfl) (pe_lst (pa_cons pe_int pa_nil)))))
          (pss_one (ps_if (pt_cmpR op_le (pv 3) pe_int (nomark _))
            (pss_one (ps_set (i := 6) nd rfl (.inl rfl) (pe_cal OR (hr.mono (by decide)) (by rfl) (pa_cons (pv 2) (pa_cons (pv 3) (pa_cons (pv 4) (pa_cons (pv 5) pa_nil)))))))
            (pss_one (ps_set (i := 6) nd rfl (.inl rfl) (pe_cal OT hr (by rfl) (pa_cons (pv 2) (pa_cons (pv 3) (pa_cons (pv 4) pa_nil)))))))))))
        (pss_cons (ps_expr (pe_bm PySem.F.plainAttrs_list PySem.F.slot_list_append PySem.F.type_list_append mt_append (pv 1) (pa_cons (pe_callB call_len_seq (by rfl) B.len PySem.boot_len (pa_cons (pv 6) pa_nil)) pa_nil)))
        (pss_one (ps_expr (pe_bm PySem.F.plainAttrs_list PySem.F.slot_list_extend PySem.F.type_list_extend mt_extend (pv 1) (pa_cons (pv 6) pa_nil)))))))
      (pss_one (ps_ret (pv 1))))), ?_⟩
    obtain ⟨raw, xs, hraw, hx, hans, h30, htot⟩ := Oo.asked_is hask
    have hrl := Oo.callsAre_len hx
    refine ⟨Nat.zero_le _, fun pf nf => ?_⟩
    have s1 : Same H (upd H pf (.lst [])) := same_upd nf
    refine ⟨1, rfl, fun H2 oa0 t0 s2 noa nt hO0 => ?_⟩
    have s12 := s1.trans s2
    have epf2 := s2 _ _ (upd_same (H := H) (a := pf) (o := .lst []))
    have ht0pf : t0 ≠ pf := fun e => by rw [e, upd_same] at nt; cases nt
    obtain ⟨dx0, k1, qs0, k2, k3⟩ := id hO0
    refine ⟨_, rfl, a, l, raw, rfl, s12.seq hS, by omega, hraw, by omega, fun H3 pp qs s3 npp hT => ?_⟩
    refine ⟨pp, rfl, ⟨_, SqL.of hT.1⟩, for_list (K := K) (a := pp) (xs := qs.map V.ref) (fun i σ H' => ∃ (y3 y4 y5 y6 : Option V) (oa t : Addr) (o : Order) (fnd : List Int), σ = [some (.ref a), some (.ref pf), some (.ref oa), y3, y4, y5, y6] ∧ (∀ b u, H3 b = some u → H2 b = none → H' b = some u) ∧ H' pf = some (.lst (iV fnd)) ∧ OrdAt C H' oa t o ∧ Good o ∧ o.told.length ≤ i ∧
        fnd ++ playO o (xs.drop i) = playO Or01.init xs ∧ t ≠ pf ∧ (H3 t = none ∨ H2 t ≠ none))
      ⟨none, none, none, none, oa0, t0, ⟨1, []⟩, [], rfl, fun b u e _ => e, s3 _ _ epf2, hO0.same s3, Oo.good_new (by decide) (by decide), Nat.le_refl _, rfl, ht0pf, .inr (fun e => by rw [k2] at e; cases e)⟩
      (fun i σ H' _ ⟨_, _, _, _, _, _, _, _, _, q, _⟩ => SqL.of (q _ _ hT.1 npp)) ?_ ?_⟩
    · rintro i y σ H4 hi ⟨y3, y4, y5, y6, oa, t, o, fnd, rfl, hk, epf, hO, g, htl, hpl, htpf, ht3⟩
      obtain ⟨q, hq, rfl⟩ := ref_get hi
      obtain ⟨c, hc, hqp, nq, gg, rr, hgp, hrp, ngg, nrr, eq, eg, er⟩ := OX.paired_get hT.2 hq
      obtain ⟨x, hxi, hcx⟩ := callsAre_get hx hc
      obtain ⟨ic, xs', row', etr, hct⟩ := hcx.ex
      rw [etr] at eq eg er
      have eq4 := hk _ _ eq nq
      have eg4 : H4 gg = some (.lst (nV xs')) := by rw [nV_iV]; exact hk _ _ eg ngg
      have er4 : H4 rr = some (.lst (nV row')) := by rw [nV_iV]; exact hk _ _ er nrr
      have hpt := play_turn (o := o) hxi
      have h13 := callT_lt hct
      obtain ⟨gs, hsl⟩ := Oo.step_good g x
      have hi30 : i < 30 := by have := (List.getElem?_eq_some_iff.mp hxi).1; omega
      -- what holds behind the turn
      have fin : ∀ (oa' t' pa : Addr) (H5 : Hp), (∀ b u, H3 b = some u → H2 b = none → H5 b = some u) → H5 pf = some (.lst (iV fnd)) → H5 pa = some (.lst (iV (step o x).2)) → pa ≠ pf → OrdAt C H5 oa' t' (step o x).1 → t' ≠ pf → (H3 t' = none ∨ H2 t' ≠ none) →
          ∀ H6, But pf H5 H6 → H6 pf = some (.lst (iV (fnd ++ (((step o x).2.length : Int) :: (step o x).2)))) →
          ∃ (y3 y4 y5 y6 : Option V) (oa t : Addr) (o : Order) (fnd : List Int), ([some (.ref a), some (.ref pf), some (.ref oa'), some (.int (ic : Nat)), some (.ref gg), some (.ref rr), some (.ref pa)] : List (Option V)) = [some (.ref a), some (.ref pf), some (.ref oa), y3, y4, y5, y6] ∧ (∀ b u, H3 b = some u → H2 b = none → H6 b = some u) ∧ H6 pf = some (.lst (iV fnd)) ∧ OrdAt C H6 oa t o ∧ Good o ∧ o.told.length ≤ i + 1 ∧
            fnd ++ playO o (xs.drop (i + 1)) = playO Or01.init xs ∧ t ≠ pf ∧ (H3 t = none ∨ H2 t ≠ none) := fun oa' t' pa H5 hk5 epf5 epa nep hO5 ht5 ht53 H6 hb e6 => by
        refine ⟨_, _, _, _, oa', t', (step o x).1, _, rfl, fun b u e n => ?_, e6, ?_, gs, by omega, ?_, ht5, ht53⟩
        · refine hb _ _ (hk5 b u e n) (fun z => ?_)
          rw [z, epf2] at n
          cases n
        · obtain ⟨dx5, m1, ps5, m2, m3⟩ := hO5
          refine ⟨dx5, hb _ _ m1 (ne_of m1 epf5 (fun z => nomatch z)), ps5, hb _ _ m2 ht5, paired_mono (fun b z (e : H5 b = some (.tup (pV z))) => hb _ _ e (ne_of e epf5 (fun z => nomatch z))) m3⟩
        · rw [hpt] at hpl
          rw [List.append_assoc]
          exact hpl
      have hlen : fnd.length + (step o x).2.length ≤ 2000000 := by
        have := congrArg List.length hpl
        rw [hpt] at this
        simp only [List.length_append, List.length_cons] at this
        omega
      refine ⟨q, _, rfl, SqT.of eq4, rfl, _, _, rfl, _, _, rfl, _, _, rfl, rfl, ?_⟩
      refine ⟨_, rfl, rfl, _, rfl, ?_⟩
      have ne0 : 0 < ic → decide (V.int ((ic : Nat) : Int) = V.int 0) = false := fun h => decide_eq_false (fun e => by have := V.int.inj e; omega)
      by_cases h0 : ic = 0
      · subst h0
        obtain ⟨n, rfl, rfl⟩ := callT_0 hct
        refine Toy.if_true_of rfl ?_
        refine ⟨_, rfl, gg, _, _, _, rfl, rfl, SqL.of eg4, atI_nat (j := 0) rfl, n, rfl, _, rfl, ?_⟩
        by_cases hn : (decide (1 ≤ n) && decide (n ≤ 7)) = true
        · refine Toy.if_false_of (by rw [hn]; rfl) ?_
          refine ⟨_, rfl, rfl, _, rfl, Toy.if_true_of rfl ?_⟩
          refine ⟨_, rfl, gg, _, _, _, rfl, rfl, SqL.of eg4, atI_nat (j := 0) rfl, n, rfl, fun H5 oa' t' s5 noa' nt' hO5 => ?_⟩
          refine ⟨(by show 1 ≤ sizeLine; decide), fun pa npa => ?_⟩
          rw [Bool.and_eq_true, decide_eq_true_iff, decide_eq_true_iff] at hn
          have es : step o (.things n) = (⟨n, []⟩, [0]) := by
            show (if n = 0 ∨ 7 < n then _ else _) = _
            rw [if_neg (by omega)]
          rw [es] at fin hlen
          have s56 := s5.trans (same_upd npa (o := .lst [V.int 0]))
          have epf6 := s56 _ _ epf
          have npf4 : pa ≠ pf := fun e => by rw [e, s5 _ _ epf] at npa; cases npa
          refine tail_ok epf6 (pa := pa) upd_same npf4 hlen rfl rfl fun H6 hb e6 => ?_
          exact fin oa' t' pa _ (fun b u e n0 => s56 _ _ (hk b u e n0)) epf6 upd_same npf4 (hO5.same (same_upd npa)) (fun e => by rw [e, epf] at nt'; cases nt')
            (by
              cases h3 : H3 t' with
              | none => exact .inl rfl
              | some u =>
                right
                intro h2
                rw [hk t' u h3 h2] at nt'
                cases nt') H6 hb e6
        · have hn' : (decide (1 ≤ n) && decide (n ≤ 7)) = false := by simpa using hn
          refine Toy.if_true_of (by rw [hn']; rfl) ?_
          refine ⟨_, rfl, (by show 1 ≤ sizeLine; decide), fun pa npa => ?_⟩
          have es : step o (.things n) = (o, [-1]) := by
            show (if n = 0 ∨ 7 < n then _ else _) = _
            rw [Bool.and_eq_false_iff, decide_eq_false_iff_not, decide_eq_false_iff_not] at hn'
            rw [if_pos (by omega)]
          rw [es] at fin hlen
          have s5 : Same H4 (upd H4 pa (.lst [V.int (-1)])) := same_upd npa
          have npf4 : pa ≠ pf := fun e => by rw [e, epf] at npa; cases npa
          refine tail_ok (s5 _ _ epf) (pa := pa) upd_same npf4 hlen rfl rfl fun H6 hb e6 => ?_
          exact fin oa t pa _ (fun b u e n0 => s5 _ _ (hk b u e n0)) (s5 _ _ epf) upd_same npf4 (hO.same s5) htpf ht3 H6 hb e6
      · have hpos : 0 < ic := by omega
        refine Toy.if_false_of (ne0 hpos) ?_
        refine Toy.if_false_of rfl ?_
        refine ⟨_, rfl, rfl, _, rfl, Toy.if_false_of (ne0 hpos) ?_⟩
        refine ⟨_, rfl, _, _, rfl, rfl, _, rfl, ?_⟩
        have after : ∀ (H5 : Hp) (pa : Addr), Ans C H4 H5 oa t (step o x).1 pa (step o x).2 → pa ≠ pf ∧ H5 pf = some (.lst (iV fnd)) ∧ ∀ b u, H3 b = some u → H2 b = none → H5 b = some u := fun H5 pa hA => by
          refine ⟨fun e => ?_, hA.keep _ _ epf (Ne.symm htpf), fun b u e n0 => hA.keep _ _ (hk b u e n0) (fun z => ?_)⟩
          · have := hA.new
            rw [e, epf] at this
            cases this
          · rcases ht3 with h | h
            · rw [z, h] at e; cases e
            · rw [z] at n0; exact h n0
        by_cases h7 : ic ≤ 7
        · refine Toy.if_true_of (decide_eq_true (by omega)) ?_
          refine ⟨_, rfl, _, rfl, _, rfl, _, rfl, oa, t, o, _, x, rfl, ⟨ic, gg, rr, xs', row', rfl, eg4, er4, hpos, h7, hct⟩, hO, g, by omega, fun H5 pa hA => ?_⟩
          obtain ⟨npf4, epf5, hk5⟩ := after H5 pa hA
          refine tail_ok epf5 hA.ans npf4 hlen rfl rfl fun H6 hb e6 => ?_
          exact fin oa t pa H5 hk5 epf5 hA.ans npf4 hA.ord htpf ht3 H6 hb e6
        · refine Toy.if_false_of (decide_eq_false (by omega)) ?_
          refine ⟨_, rfl, _, rfl, _, rfl, oa, t, o, _, x, rfl, ⟨ic, gg, xs', rfl, eg4, by omega, h13, callT_row (by omega) hct⟩, hO, g, by omega, fun H5 pa hA => ?_⟩
          obtain ⟨npf4, epf5, hk5⟩ := after H5 pa hA
          refine tail_ok epf5 hA.ans npf4 hlen rfl rfl fun H6 hb e6 => ?_
          exact fin oa t pa H5 hk5 epf5 hA.ans npf4 hA.ord htpf ht3 H6 hb e6
    · rintro σ H4 ⟨y3, y4, y5, y6, oa, t, o, fnd, rfl, hk, epf, hO, g, htl, hpl, htpf, ht3⟩
      have hql := paired_len hT.2
      rw [List.length_map, hql, hrl, List.drop_length] at hpl
      have e : fnd = PyOr01.answers l := by
        rw [hans, ← hpl]
        show fnd = fnd ++ []
        rw [List.append_nil]
      refine ⟨_, rfl, k H4 pf ?_⟩
      rw [← e]
      exact epf
end
end OW
namespace OW
open PySem PySem.Spec PyProof.Rows L2 OX
open PySem.W (Codec)
/-! ### the facts of the top, bundled -/
section
variable {K : PySem.W.Frag} {h : Heap} {mg : Str → Option Value}
theorem defx_mk {x : Str} {st : Stmt} {ps : List Str} {f : Addr} {oc : Value} {od an : Option Addr} {sl : Array (Option Value)} {kV dc pm cd ct : Value} (X : K.In h) (G : h.Ns mainGlobals mg) (a : PySem.W.nsIn K mainGlobals x = some (some (.ref f)))
    (l : K.lookup f = some ⟨oc, od, .func (PySem.W.fnOf x x (defArgs st) (defBody st) (defScope st) .none kV dc pm an cd ct), sl⟩) (c : PySem.W.codeIn K cd x = true) (k : PySem.W.keepIn K (.ref f) = true)
    (b : ∀ (kV doc pm : Value) (an : Option Addr) (cdv ct : Value) (us : List Value), us.length = ps.length → bindArgs (PySem.W.fnOf x x (defArgs st) (defBody st) (defScope st) .none kV doc pm an cdv ct) ⟨us, []⟩ = pure (ps.zip us)) : DefX K mg x st ps :=
  ⟨f, _, fun_mk l c k, PySem.W.mg_of X G a, (fun_mk (st := st) l c k).binds b⟩
theorem clsx_mk {x q : Str} {st : Stmt} {ps : List Str} {C f : Addr} {oc : Value} {od an : Option Addr} {sl : Array (Option Value)} {kV dc pm cd ct : Value} (X : K.In h) (G : h.Ns mainGlobals mg) (aC : PySem.W.nsIn K mainGlobals x = some (some (.ref C)))
    (a1 : PySem.W.findIn K (.ref C) "__init__" = some (some (.ref f))) (i1 : PySem.W.isFn K (.ref f) = true) (l1 : K.lookup f = some ⟨oc, od, .func (PySem.W.fnOf "__init__" q (defArgs st) (defBody st) (defScope st) .none kV dc pm an cd ct), sl⟩) (c1 : PySem.W.codeIn K cd q = true) (k1 : PySem.W.keepIn K (.ref f) = true)
    (pg : PySem.W.plainGet K C Str.empty = true) (hd : PySem.W.hasDictIn K C = true) (po : PySem.W.plainOver K C = true) (sa : PySem.W.findIn K (.ref C) "__setattr__" = some (some (.builtin "object.__setattr__"))) (mk : PySem.W.makesIn K C = true) (kc : PySem.W.keepIn K (.ref C) = true)
    (b : ∀ (kV doc pm : Value) (an : Option Addr) (cdv ct : Value) (us : List Value), us.length = ps.length → bindArgs (PySem.W.fnOf "__init__" q (defArgs st) (defBody st) (defScope st) .none kV doc pm an cdv ct) ⟨us, []⟩ = pure (ps.zip us)) : ClsX K mg x q st ps C :=
  ⟨⟨pg, hd, po, sa⟩, PySem.W.mg_of X G aC, f, _, fun_mk l1 c1 k1, ⟨mk, a1, i1, kc⟩, (fun_mk (st := st) l1 c1 k1).binds b⟩
theorem ordx_mk {C f : Addr} {oc : Value} {od an : Option Addr} {sl : Array (Option Value)} {kV dc pm cd ct : Value} (X : K.In h) (G : h.Ns mainGlobals mg) (aC : PySem.W.nsIn K mainGlobals "Order" = some (some (.ref C)))
    (a1 : PySem.W.findIn K (.ref C) "__init__" = some (some (.ref f))) (i1 : PySem.W.isFn K (.ref f) = true) (l1 : K.lookup f = some ⟨oc, od, .func (PySem.W.fnOf "__init__" "Order.__init__" (defArgs (inClass (topS 1) 0)) (defBody (inClass (topS 1) 0)) (defScope (inClass (topS 1) 0)) .none kV dc pm an cd ct), sl⟩) (c1 : PySem.W.codeIn K cd "Order.__init__" = true) (k1 : PySem.W.keepIn K (.ref f) = true)
    (pg : PySem.W.plainGet K C Str.empty = true) (hd : PySem.W.hasDictIn K C = true) (po : PySem.W.plainOver K C = true) (sa : PySem.W.findIn K (.ref C) "__setattr__" = some (some (.builtin "object.__setattr__"))) (mk : PySem.W.makesIn K C = true) (kc : PySem.W.keepIn K (.ref C) = true)
    (nM : PySem.W.findIn K (.ref C) "many" = some none) (nT : PySem.W.findIn K (.ref C) "told" = some none) : ∃ C, OrdX K mg C :=
  ⟨C, clsx_mk X G aC a1 i1 l1 c1 k1 pg hd po sa mk kc (fun _ _ _ _ _ _ us hl => match us, hl with | [_, _], _ => rfl), nM, nT⟩
theorem askx_mk {C f : Addr} {oc : Value} {od an : Option Addr} {sl : Array (Option Value)} {kV dc pm cd ct : Value} (X : K.In h) (G : h.Ns mainGlobals mg) (aC : PySem.W.nsIn K mainGlobals "Asking" = some (some (.ref C)))
    (a1 : PySem.W.findIn K (.ref C) "__init__" = some (some (.ref f))) (i1 : PySem.W.isFn K (.ref f) = true) (l1 : K.lookup f = some ⟨oc, od, .func (PySem.W.fnOf "__init__" "Asking.__init__" (defArgs (inClass (topS 10) 0)) (defBody (inClass (topS 10) 0)) (defScope (inClass (topS 10) 0)) .none kV dc pm an cd ct), sl⟩) (c1 : PySem.W.codeIn K cd "Asking.__init__" = true) (k1 : PySem.W.keepIn K (.ref f) = true)
    (pg : PySem.W.plainGet K C Str.empty = true) (hd : PySem.W.hasDictIn K C = true) (po : PySem.W.plainOver K C = true) (sa : PySem.W.findIn K (.ref C) "__setattr__" = some (some (.builtin "object.__setattr__"))) (mk : PySem.W.makesIn K C = true) (kc : PySem.W.keepIn K (.ref C) = true)
    (nK : PySem.W.findIn K (.ref C) "known" = some none) : ∃ C, AskX K mg C :=
  ⟨C, clsx_mk X G aC a1 i1 l1 c1 k1 pg hd po sa mk kc (fun _ _ _ _ _ _ us hl => match us, hl with | [_], _ => rfl), nK⟩
theorem bn_mk (X : K.In h) (G : h.Ns mainGlobals mg) (z1 : PySem.W.nsIn K mainGlobals "list" = some none) (z2 : PySem.W.nsIn K mainGlobals "range" = some none) (z3 : PySem.W.nsIn K mainGlobals "len" = some none) (z4 : PySem.W.nsIn K mainGlobals "all" = some none) (z5 : PySem.W.nsIn K mainGlobals "tuple" = some none) (z6 : PySem.W.nsIn K mainGlobals "sorted" = some none)
    (z7 : PySem.W.nsIn K mainGlobals "max" = some none) (z8 : PySem.W.nsIn K mainGlobals "min" = some none) (z9 : PySem.W.nsIn K mainGlobals "sum" = some none) (z10 : PySem.W.nsIn K mainGlobals "enumerate" = some none) (z11 : PySem.W.nsIn K mainGlobals "abs" = some none) : Bn mg :=
  ⟨PySem.W.mg_none_of X G z1, PySem.W.mg_none_of X G z2, PySem.W.mg_none_of X G z3, PySem.W.mg_none_of X G z4, PySem.W.mg_none_of X G z5, PySem.W.mg_none_of X G z6, PySem.W.mg_none_of X G z7, PySem.W.mg_none_of X G z8, PySem.W.mg_none_of X G z9, PySem.W.mg_none_of X G z10, PySem.W.mg_none_of X G z11⟩
theorem gn_mk {t1 t2 t3 : Tok} (X : K.In h) (G : h.Ns mainGlobals mg) (n1 : PySem.W.nsIn K mainGlobals "MOST_THINGS" = some (some (.int 7 t1))) (n2 : PySem.W.nsIn K mainGlobals "MOST_ASKED" = some (some (.int 4 t2))) (n3 : PySem.W.nsIn K mainGlobals "RANK" = some (some (.int 5 t3))) : Gn mg :=
  ⟨⟨_, PySem.W.mg_of X G n1⟩, ⟨_, PySem.W.mg_of X G n2⟩, ⟨_, PySem.W.mg_of X G n3⟩⟩
theorem numsx_mk {aN : Addr} {d : Option Addr} {its : Array Value} {n : Nat} {sl : Array (Option Value)} (X : K.In h) (G : h.Ns mainGlobals mg) (a : PySem.W.nsIn K mainGlobals "NUMBERS" = some (some (.ref aN))) (l : K.lookup aN = some ⟨.type "tuple", d, .seq its n, sl⟩)
    (v : Vals (nV Oo.numN) its.toList) : NumsX K mg := by
  refine ⟨aN, PySem.W.mg_of X G a, fun H => .inr ⟨_, its, n, l, rfl, rfl, ?_, v⟩⟩
  have h1 := v.length
  have h2 : its.toList.length = its.size := Array.length_toList
  have h3 : (nV Oo.numN).length = 14 := rfl
  rw [sizeLine_eq]
  omega
end
structure Defs (K : PySem.W.Frag) (mg : Str → Option Value) : Prop where
  d_things_of : DefX K mg "things_of" sThings ["order"]
  d_lower_ones : DefX K mg "lower_ones" sLower ["order", "thing"]
  d_lies_below : DefX K mg "lies_below" sBelow ["order", "one", "other"]
  d_all_rows : DefX K mg "all_rows" sAll ["order"]
  d_is_ahead : DefX K mg "is_ahead" sAhead ["row", "one", "other"]
  d_open_pairs : DefX K mg "open_pairs" sOpen ["order"]
  d_next_pairs_of : DefX K mg "next_pairs_of" sNextP ["order"]
  d_parts_of : DefX K mg "parts_of" sParts ["rows", "one", "other"]
  d_enough_for : DefX K mg "enough_for" sEnough ["asking", "rows"]
  d_common : DefX K mg "common" sCommon ["one", "other"]
  d_share : DefX K mg "share" sShare ["upper", "lower"]
  d_many_ahead : DefX K mg "many_ahead" sMany ["rows", "one", "others"]
  d_places_of : DefX K mg "places_of" sPlaces ["rows", "thing", "many"]
  d_place_sum : DefX K mg "place_sum" sPsum ["places"]
  d_is_number : DefX K mg "is_number" sIsNum ["many"]
  d_new_order : DefX K mg "new_order" sNew ["many"]
  d_is_thing : DefX K mg "is_thing" sIsTh ["order", "thing"]
  d_are_two : DefX K mg "are_two" sTwo ["order", "one", "other"]
  d_less : DefX K mg "less" sLess ["order", "one", "other"]
  d_undo : DefX K mg "undo" sUndo ["order"]
  d_many : DefX K mg "many" sManyC ["order"]
  d_nth : DefX K mg "nth" sNth ["order", "number"]
  d_rank : DefX K mg "rank" sRank ["order", "row"]
  d_chance : DefX K mg "chance" sChance ["order", "one", "other"]
  d_both : DefX K mg "both" sBoth ["order", "one", "second", "third"]
  d_average : DefX K mg "average" sAverage ["rows", "thing", "size"]
  d_spread : DefX K mg "spread" sSpread ["order", "thing"]
  d_fairest : DefX K mg "fairest" sFairest ["order"]
  d_fewest : DefX K mg "fewest" sFewest ["order"]
  d_next_pairs : DefX K mg "next_pairs" sNextC ["order"]
  d_likely : DefX K mg "likely" sLikely ["order"]
  d_is_below : DefX K mg "is_below" sIsB ["order", "one", "other"]
  d_parted : DefX K mg "parted" sParted ["calls"]
  d_on_rows : DefX K mg "on_rows" s_on_rows ["order", "call", "given", "row"]
  d_on_things : DefX K mg "on_things" s_on_things ["order", "call", "given"]
/-- all defs hold their promises -/
theorem all_ok {P : Program} {w : World} {K : PySem.W.Frag} {mg : Str → Option Value} {base : Heap} {C CA f : Addr} {fd : FuncData} (T : OrdX K mg C) (TA : AskX K mg CA) (B : Bn mg) (G : Gn mg) (NX : NumsX K mg) (D : Defs K mg) (F : Fun K "answers" "answers" sAns f fd) : FnOk P w K mg base CX0 31 f fd ["calls"] (spAns K) := by
  have Nw := c_new (P := P) (w := w) (base := base) T D.d_new_order
  have Th := c_things (P := P) (w := w) (base := base) T B D.d_things_of
  have Lo := c_lower (P := P) (w := w) (base := base) T B D.d_lower_ones
  have Bl := c_below Lo D.d_lies_below
  have Ah := c_ahead (P := P) (w := w) (base := base) D.d_is_ahead
  have Al := c_all T B Th Lo D.d_all_rows
  have Op := c_open T B Th Bl D.d_open_pairs
  have Np := c_nextP B Th Lo Bl D.d_next_pairs_of
  have Cm := c_common (P := P) (w := w) (base := base) D.d_common
  have Sh := c_share Cm D.d_share
  have Ma := c_many_ahead B Ah D.d_many_ahead
  have Pl := c_places (P := P) (w := w) (base := base) D.d_places_of
  have Ps := c_psum (P := P) (w := w) (base := base) B D.d_place_sum
  have Is := c_isnum (P := P) (w := w) (base := base) G D.d_is_number
  have It := c_isth (P := P) (w := w) (base := base) T D.d_is_thing
  have Tw := c_two It D.d_are_two
  have Pa := c_parts Ah D.d_parts_of
  have En := c_enough B TA Pa D.d_enough_for 24
  have Av := c_average B Sh Ps Pl D.d_average
  have OR := c_on_rows (c_less T B Tw Bl Al D.d_less) (c_undo T B D.d_undo) (c_many B Al D.d_many) (c_nth B Al D.d_nth) (c_rank Al D.d_rank) (c_chance B Tw Al Sh Ma D.d_chance) (c_both B Tw Al Sh Ma D.d_both) D.d_on_rows
  have OT := c_on_things (c_spread T It Al Pl Av D.d_spread) (c_fairest B Op Al Ma Sh D.d_fairest) (c_fewest T TA G Al En D.d_fewest) (c_next B Np D.d_next_pairs) (c_likely T B Al Th Sh Ps Pl D.d_likely) (c_isb It Bl D.d_is_below) D.d_on_things
  exact ok_answers B Nw (c_parted B G NX D.d_parted) Is OR OT F
theorem fin_mk {P : Program} {w : World} {K : PySem.W.Frag} {h : Heap} {mg : Str → Option Value} {fa f : Addr} {oc : Value} {od an : Option Addr} {sl : Array (Option Value)} {kV dc pm cd ct : Value} (X : K.In h) (G : h.Ns mainGlobals mg) (hfa : mg "answers" = some (.ref fa))
    (T : ∃ C, OrdX K mg C) (TA : ∃ C, AskX K mg C) (B : Bn mg) (Gg : Gn mg) (NX : NumsX K mg) (D : Defs K mg) (a : PySem.W.nsIn K mainGlobals "answers" = some (some (.ref f)))
    (l : K.lookup f = some ⟨oc, od, .func (PySem.W.fnOf "answers" "answers" (defArgs sAns) (defBody sAns) (defScope sAns) .none kV dc pm an cd ct), sl⟩) (c : PySem.W.codeIn K cd "answers" = true) (k : PySem.W.keepIn K (.ref f) = true) :
    ∃ fd : FuncData, (∀ (s : Shared) (us : List Value), us.length = (["calls"] : List Str).length → BindsTo s fd ⟨us, []⟩ ((["calls"] : List Str).zip us)) ∧ ∀ base : Heap, K.In base → base.Ns mainGlobals mg → FnOk P w K mg base CX0 31 fa fd ["calls"] (spAns K) := by
  have e := hfa.symm.trans (PySem.W.mg_of X G a)
  cases e
  obtain ⟨C, T⟩ := T
  obtain ⟨CA, TA⟩ := TA
  have F := fun_mk (st := sAns) l c k
  exact ⟨PySem.W.fnOf "answers" "answers" (defArgs sAns) (defBody sAns) (defScope sAns) .none kV dc pm an cd ct, fun s us hu => match us, hu with | [_], _ => .of_eq rfl, fun base _ _ => all_ok T TA B Gg NX D F⟩
end OW
open PySem PySem.W PyProof.Rows
set_option maxRecDepth 100000 in
set_option maxHeartbeats 0 in
theorem PySem.Challenge.cw_openorder_s01_answers_holds : PySem.Challenge.rw_openorder_s01_answers.Holds := by
  w_on; k_headS; (case hw => exact ⟨[.list [.int 3]], by decide +kernel, by decide +kernel⟩)
  k_fillS
  refine L2.walk_specK (r := PySem.Challenge.rw_openorder_s01_answers) (k := 31) (CX := L2.CX0) (ps := ["calls"]) (sp := OW.spAns) (by decide +kernel) rfl rfl ⟨rfl, by decide, by decide⟩ (fun w h Y => PySem.W.kIn_of Y) ?F ?S (fun _ _ _ _ z => z)
  case F =>
    intro w mg fa h Y KX G hmg
    refine' OW.fin_mk KX G hmg ?T ?TA ?B ?Gg ?NX ?D ?a ?l ?c ?k
    case T =>
      refine' OW.ordx_mk KX G ?aC ?a1 ?i1 ?l1 ?c1 ?k1 ?pg ?hd ?po ?sa ?mk ?kc ?nM ?nT
      (case aC => k_is); (case a1 => k_is); (case i1 => k_is); (case l1 => k_is); (case c1 => k_is); (case k1 => k_is); (case pg => k_is); (case hd => k_is); (case po => k_is); (case sa => k_is); (case mk => k_is); (case kc => k_is); (case nM => k_is); (case nT => k_is)
    case TA =>
      refine' OW.askx_mk KX G ?AaC ?Aa1 ?Ai1 ?Al1 ?Ac1 ?Ak1 ?Apg ?Ahd ?Apo ?Asa ?Amk ?Akc ?AnK
      (case AaC => k_is); (case Aa1 => k_is); (case Ai1 => k_is); (case Al1 => k_is); (case Ac1 => k_is); (case Ak1 => k_is); (case Apg => k_is); (case Ahd => k_is); (case Apo => k_is); (case Asa => k_is); (case Amk => k_is); (case Akc => k_is); (case AnK => k_is)
    case B =>
      refine' OW.bn_mk KX G ?z1 ?z2 ?z3 ?z4 ?z5 ?z6 ?z7 ?z8 ?z9 ?z10 ?z11 <;> k_is
    case Gg =>
      refine' OW.gn_mk KX G ?n1 ?n2 ?n3
      (case n1 => k_is); (case n2 => k_is); (case n3 => k_is)
    case NX =>
      refine' OW.numsx_mk KX G ?na ?nl ?nv
      (case na => k_is); (case nl => k_is)
      (case nv => exact .cons ⟨_, rfl⟩ (.cons ⟨_, rfl⟩ (.cons ⟨_, rfl⟩ (.cons ⟨_, rfl⟩ (.cons ⟨_, rfl⟩ (.cons ⟨_, rfl⟩ (.cons ⟨_, rfl⟩ (.cons ⟨_, rfl⟩ (.cons ⟨_, rfl⟩ (.cons ⟨_, rfl⟩ (.cons ⟨_, rfl⟩ (.cons ⟨_, rfl⟩ (.cons ⟨_, rfl⟩ (.cons ⟨_, rfl⟩ .nil))))))))))))))
    case D =>
      refine' ⟨?d0, ?d1, ?d2, ?d3, ?d4, ?d5, ?d6, ?d7, ?d8, ?d9, ?d10, ?d11, ?d12, ?d13, ?d14, ?d15, ?d16, ?d17, ?d18, ?d19, ?d20, ?d21, ?d22, ?d23, ?d24, ?d25, ?d26, ?d27, ?d28, ?d29, ?d30, ?d31, ?d32, ?d33, ?d34⟩
      case d0 =>
        refine' OW.defx_mk KX G ?ax0 ?lx0 ?cx0 ?kx0 (fun _ _ _ _ _ _ us hl => match us, hl with | [_], _ => rfl)
        (case ax0 => k_is); (case lx0 => k_is); (case cx0 => k_is); (case kx0 => k_is)
      case d1 =>
        refine' OW.defx_mk KX G ?ax1 ?lx1 ?cx1 ?kx1 (fun _ _ _ _ _ _ us hl => match us, hl with | [_, _], _ => rfl)
        (case ax1 => k_is); (case lx1 => k_is); (case cx1 => k_is); (case kx1 => k_is)
      case d2 =>
        refine' OW.defx_mk KX G ?ax2 ?lx2 ?cx2 ?kx2 (fun _ _ _ _ _ _ us hl => match us, hl with | [_, _, _], _ => rfl)
        (case ax2 => k_is); (case lx2 => k_is); (case cx2 => k_is); (case kx2 => k_is)
      case d3 =>
        refine' OW.defx_mk KX G ?ax3 ?lx3 ?cx3 ?kx3 (fun _ _ _ _ _ _ us hl => match us, hl with | [_], _ => rfl)
        (case ax3 => k_is); (case lx3 => k_is); (case cx3 => k_is); (case kx3 => k_is)
      case d4 =>
        refine' OW.defx_mk KX G ?ax4 ?lx4 ?cx4 ?kx4 (fun _ _ _ _ _ _ us hl => match us, hl with | [_, _, _], _ => rfl)
        (case ax4 => k_is); (case lx4 => k_is); (case cx4 => k_is); (case kx4 => k_is)
      case d5 =>
        refine' OW.defx_mk KX G ?ax5 ?lx5 ?cx5 ?kx5 (fun _ _ _ _ _ _ us hl => match us, hl with | [_], _ => rfl)
        (case ax5 => k_is); (case lx5 => k_is); (case cx5 => k_is); (case kx5 => k_is)
      case d6 =>
        refine' OW.defx_mk KX G ?ax6 ?lx6 ?cx6 ?kx6 (fun _ _ _ _ _ _ us hl => match us, hl with | [_], _ => rfl)
        (case ax6 => k_is); (case lx6 => k_is); (case cx6 => k_is); (case kx6 => k_is)
      case d7 =>
        refine' OW.defx_mk KX G ?ax7 ?lx7 ?cx7 ?kx7 (fun _ _ _ _ _ _ us hl => match us, hl with | [_, _, _], _ => rfl)
        (case ax7 => k_is); (case lx7 => k_is); (case cx7 => k_is); (case kx7 => k_is)
      case d8 =>
        refine' OW.defx_mk KX G ?ax8 ?lx8 ?cx8 ?kx8 (fun _ _ _ _ _ _ us hl => match us, hl with | [_, _], _ => rfl)
        (case ax8 => k_is); (case lx8 => k_is); (case cx8 => k_is); (case kx8 => k_is)
      case d9 =>
        refine' OW.defx_mk KX G ?ax9 ?lx9 ?cx9 ?kx9 (fun _ _ _ _ _ _ us hl => match us, hl with | [_, _], _ => rfl)
        (case ax9 => k_is); (case lx9 => k_is); (case cx9 => k_is); (case kx9 => k_is)
      case d10 =>
        refine' OW.defx_mk KX G ?ax10 ?lx10 ?cx10 ?kx10 (fun _ _ _ _ _ _ us hl => match us, hl with | [_, _], _ => rfl)
        (case ax10 => k_is); (case lx10 => k_is); (case cx10 => k_is); (case kx10 => k_is)
      case d11 =>
        refine' OW.defx_mk KX G ?ax11 ?lx11 ?cx11 ?kx11 (fun _ _ _ _ _ _ us hl => match us, hl with | [_, _, _], _ => rfl)
        (case ax11 => k_is); (case lx11 => k_is); (case cx11 => k_is); (case kx11 => k_is)
      case d12 =>
        refine' OW.defx_mk KX G ?ax12 ?lx12 ?cx12 ?kx12 (fun _ _ _ _ _ _ us hl => match us, hl with | [_, _, _], _ => rfl)
        (case ax12 => k_is); (case lx12 => k_is); (case cx12 => k_is); (case kx12 => k_is)
      case d13 =>
        refine' OW.defx_mk KX G ?ax13 ?lx13 ?cx13 ?kx13 (fun _ _ _ _ _ _ us hl => match us, hl with | [_], _ => rfl)
        (case ax13 => k_is); (case lx13 => k_is); (case cx13 => k_is); (case kx13 => k_is)
      case d14 =>
        refine' OW.defx_mk KX G ?ax14 ?lx14 ?cx14 ?kx14 (fun _ _ _ _ _ _ us hl => match us, hl with | [_], _ => rfl)
        (case ax14 => k_is); (case lx14 => k_is); (case cx14 => k_is); (case kx14 => k_is)
      case d15 =>
        refine' OW.defx_mk KX G ?ax15 ?lx15 ?cx15 ?kx15 (fun _ _ _ _ _ _ us hl => match us, hl with | [_], _ => rfl)
        (case ax15 => k_is); (case lx15 => k_is); (case cx15 => k_is); (case kx15 => k_is)
      case d16 =>
        refine' OW.defx_mk KX G ?ax16 ?lx16 ?cx16 ?kx16 (fun _ _ _ _ _ _ us hl => match us, hl with | [_, _], _ => rfl)
        (case ax16 => k_is); (case lx16 => k_is); (case cx16 => k_is); (case kx16 => k_is)
      case d17 =>
        refine' OW.defx_mk KX G ?ax17 ?lx17 ?cx17 ?kx17 (fun _ _ _ _ _ _ us hl => match us, hl with | [_, _, _], _ => rfl)
        (case ax17 => k_is); (case lx17 => k_is); (case cx17 => k_is); (case kx17 => k_is)
      case d18 =>
        refine' OW.defx_mk KX G ?ax18 ?lx18 ?cx18 ?kx18 (fun _ _ _ _ _ _ us hl => match us, hl with | [_, _, _], _ => rfl)
        (case ax18 => k_is); (case lx18 => k_is); (case cx18 => k_is); (case kx18 => k_is)
      case d19 =>
        refine' OW.defx_mk KX G ?ax19 ?lx19 ?cx19 ?kx19 (fun _ _ _ _ _ _ us hl => match us, hl with | [_], _ => rfl)
        (case ax19 => k_is); (case lx19 => k_is); (case cx19 => k_is); (case kx19 => k_is)
      case d20 =>
        refine' OW.defx_mk KX G ?ax20 ?lx20 ?cx20 ?kx20 (fun _ _ _ _ _ _ us hl => match us, hl with | [_], _ => rfl)
        (case ax20 => k_is); (case lx20 => k_is); (case cx20 => k_is); (case kx20 => k_is)
      case d21 =>
        refine' OW.defx_mk KX G ?ax21 ?lx21 ?cx21 ?kx21 (fun _ _ _ _ _ _ us hl => match us, hl with | [_, _], _ => rfl)
        (case ax21 => k_is); (case lx21 => k_is); (case cx21 => k_is); (case kx21 => k_is)
      case d22 =>
        refine' OW.defx_mk KX G ?ax22 ?lx22 ?cx22 ?kx22 (fun _ _ _ _ _ _ us hl => match us, hl with | [_, _], _ => rfl)
        (case ax22 => k_is); (case lx22 => k_is); (case cx22 => k_is); (case kx22 => k_is)
      case d23 =>
        refine' OW.defx_mk KX G ?ax23 ?lx23 ?cx23 ?kx23 (fun _ _ _ _ _ _ us hl => match us, hl with | [_, _, _], _ => rfl)
        (case ax23 => k_is); (case lx23 => k_is); (case cx23 => k_is); (case kx23 => k_is)
      case d24 =>
        refine' OW.defx_mk KX G ?ax24 ?lx24 ?cx24 ?kx24 (fun _ _ _ _ _ _ us hl => match us, hl with | [_, _, _, _], _ => rfl)
        (case ax24 => k_is); (case lx24 => k_is); (case cx24 => k_is); (case kx24 => k_is)
      case d25 =>
        refine' OW.defx_mk KX G ?ax25 ?lx25 ?cx25 ?kx25 (fun _ _ _ _ _ _ us hl => match us, hl with | [_, _, _], _ => rfl)
        (case ax25 => k_is); (case lx25 => k_is); (case cx25 => k_is); (case kx25 => k_is)
      case d26 =>
        refine' OW.defx_mk KX G ?ax26 ?lx26 ?cx26 ?kx26 (fun _ _ _ _ _ _ us hl => match us, hl with | [_, _], _ => rfl)
        (case ax26 => k_is); (case lx26 => k_is); (case cx26 => k_is); (case kx26 => k_is)
      case d27 =>
        refine' OW.defx_mk KX G ?ax27 ?lx27 ?cx27 ?kx27 (fun _ _ _ _ _ _ us hl => match us, hl with | [_], _ => rfl)
        (case ax27 => k_is); (case lx27 => k_is); (case cx27 => k_is); (case kx27 => k_is)
      case d28 =>
        refine' OW.defx_mk KX G ?ax28 ?lx28 ?cx28 ?kx28 (fun _ _ _ _ _ _ us hl => match us, hl with | [_], _ => rfl)
        (case ax28 => k_is); (case lx28 => k_is); (case cx28 => k_is); (case kx28 => k_is)
      case d29 =>
        refine' OW.defx_mk KX G ?ax29 ?lx29 ?cx29 ?kx29 (fun _ _ _ _ _ _ us hl => match us, hl with | [_], _ => rfl)
        (case ax29 => k_is); (case lx29 => k_is); (case cx29 => k_is); (case kx29 => k_is)
      case d30 =>
        refine' OW.defx_mk KX G ?ax30 ?lx30 ?cx30 ?kx30 (fun _ _ _ _ _ _ us hl => match us, hl with | [_], _ => rfl)
        (case ax30 => k_is); (case lx30 => k_is); (case cx30 => k_is); (case kx30 => k_is)
      case d31 =>
        refine' OW.defx_mk KX G ?ax31 ?lx31 ?cx31 ?kx31 (fun _ _ _ _ _ _ us hl => match us, hl with | [_, _, _], _ => rfl)
        (case ax31 => k_is); (case lx31 => k_is); (case cx31 => k_is); (case kx31 => k_is)
      case d32 =>
        refine' OW.defx_mk KX G ?ax32 ?lx32 ?cx32 ?kx32 (fun _ _ _ _ _ _ us hl => match us, hl with | [_], _ => rfl)
        (case ax32 => k_is); (case lx32 => k_is); (case cx32 => k_is); (case kx32 => k_is)
      case d33 =>
        refine' OW.defx_mk KX G ?ax33 ?lx33 ?cx33 ?kx33 (fun _ _ _ _ _ _ us hl => match us, hl with | [_, _, _, _], _ => rfl)
        (case ax33 => k_is); (case lx33 => k_is); (case cx33 => k_is); (case kx33 => k_is)
      case d34 =>
        refine' OW.defx_mk KX G ?ax34 ?lx34 ?cx34 ?kx34 (fun _ _ _ _ _ _ us hl => match us, hl with | [_, _, _], _ => rfl)
        (case ax34 => k_is); (case lx34 => k_is); (case cx34 => k_is); (case kx34 => k_is)
    (case a => k_is); (case l => k_is); (case c => k_is); (case k => k_is)
  case S =>
    intro K H xs a hO hwi hask hx
    cases hx with
    | cons h1 h2 =>
      cases h2
      cases h1 with
      | lst hs ha =>
        have e := L2.ints_dw a.1 _ ha
        subst e
        have q : ((Codec.inLen 0 1260 a.1 && a.1.all (Codec.inInt 0 4294967295)) && true) = true := hwi
        rw [Bool.and_eq_true, Bool.and_eq_true] at q
        exact ⟨_, a.1, rfl, hs, (Codec.inNat_iff.mp q.1.1).2, hask, fun H' p hp => .lst (L2.SqL.of hp) (L2.dw_ints _)⟩
#print axioms PySem.Challenge.cw_openorder_s01_answers_holds
