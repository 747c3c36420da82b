import PyProof.Rows.All
import Wide.All
import OpenK.AllK
import Wide.FinOn
import HandS.ForMost
import HandS.Defaults
import HandS.ClsMeth
import HandS.IsInst
import HandS.Style
import HandS.Zip
import HandS.MapObj
import HandS.RevTup
import KE.KDictZip
import KE.KSortTupG
import KE.KStateDown
import Lean
import HandS.More
import HandS.WordsExc
import HandS.Head0
import HandS.Head1
import HandS.Head2
import HandS.HeadEnd
import HandS.HeadHook1
import HandS.HeadHook2
import PySem.Challenge.RW_duetickers_k15_whole_all_texts_of_a_leng
import HandS.RaiseMore
import HandS.Walk
import HandS.Codes
namespace K15
/-! ### texts: lists of codes; their order -/
def lx : List Nat → List Nat → Prop
  | [], [] => False
  | [], _ :: _ => True
  | _ :: _, [] => False
  | a :: as, b :: bs => a < b ∨ (a = b ∧ lx as bs)
theorem lx_irrefl : ∀ l, ¬ lx l l
  | [], h => h
  | a :: as, h => by
    rcases h with h | ⟨_, h⟩
    · exact Nat.lt_irrefl _ h
    · exact lx_irrefl as h
theorem lx_trans : ∀ {a b c : List Nat}, lx a b → lx b c → lx a c
  | [], [], _, h, _ => h.elim
  | [], _ :: _, [], _, h => h.elim
  | [], _ :: _, _ :: _, _, _ => trivial
  | _ :: _, [], _, h, _ => h.elim
  | _ :: _, _ :: _, [], _, h => h.elim
  | a :: as, b :: bs, c :: cs, h1, h2 => by
    rcases h1 with h1 | ⟨e1, h1⟩
    · rcases h2 with h2 | ⟨e2, _⟩
      · exact .inl (Nat.lt_trans h1 h2)
      · exact .inl (e2 ▸ h1)
    · rcases h2 with h2 | ⟨e2, h2⟩
      · exact .inl (e1 ▸ h2)
      · exact .inr ⟨e1.trans e2, lx_trans h1 h2⟩
theorem lx_asymm {a b : List Nat} (h : lx a b) (h' : lx b a) : False := lx_irrefl a (lx_trans h h')
theorem lx_app : ∀ (n : List Nat) {a b : List Nat}, lx a b → lx (n ++ a) (n ++ b)
  | [], _, _, h => h
  | _ :: n, _, _, h => .inr ⟨rfl, lx_app n h⟩
theorem lx_ext : ∀ {a b : List Nat}, lx a b → ¬ a <+: b → ∀ x y, lx (a ++ x) (b ++ y)
  | [], _, _, hp, _, _ => (hp (List.nil_prefix)).elim
  | _ :: _, [], h, _, _, _ => h.elim
  | a :: as, b :: bs, h, hp, x, y => by
    rcases h with h | ⟨e, h⟩
    · exact .inl h
    · exact .inr ⟨e, lx_ext h (fun q => hp (by rw [e]; exact (List.prefix_cons_inj b).mpr q)) x y⟩
/-- two lists in strict order with the same members -/
theorem uniq {α : Type} {R : α → α → Prop} (asym : ∀ {a b}, R a b → R b a → False) : ∀ {l1 l2 : List α}, l1.Pairwise R → l2.Pairwise R → (∀ x, x ∈ l1 ↔ x ∈ l2) → l1 = l2
  | [], [], _, _, _ => rfl
  | [], b :: _, _, _, h => by simpa using (h b).mpr List.mem_cons_self
  | a :: _, [], _, _, h => by simpa using (h a).mp List.mem_cons_self
  | a :: as, b :: bs, h1, h2, h => by
    have p1 := List.pairwise_cons.mp h1
    have p2 := List.pairwise_cons.mp h2
    have e : a = b := by
      rcases List.mem_cons.mp ((h a).mp List.mem_cons_self) with e | m
      · exact e
      · rcases List.mem_cons.mp ((h b).mpr List.mem_cons_self) with e | m'
        · exact e.symm
        · exact (asym (p1.1 b m') (p2.1 a m)).elim
    subst e
    have na : a ∉ as := fun m => asym (p1.1 a m) (p1.1 a m)
    have nb : a ∉ bs := fun m => asym (p2.1 a m) (p2.1 a m)
    have ih := uniq asym p1.2 p2.2 fun x => by
      constructor
      · intro m
        rcases List.mem_cons.mp ((h x).mp (List.mem_cons_of_mem _ m)) with e | m'
        · subst e; exact (na m).elim
        · exact m'
      · intro m
        rcases List.mem_cons.mp ((h x).mpr (List.mem_cons_of_mem _ m)) with e | m'
        · subst e; exact (nb m).elim
        · exact m'
    rw [ih]

/-! ### all texts of a length -/
def Bin (l : List Nat) : Prop := ∀ c ∈ l, c = 48 ∨ c = 49
def T : Nat → List (List Nat)
  | 0 => [[]]
  | L + 1 => (T L).map (48 :: ·) ++ (T L).map (49 :: ·)
theorem mem_T : ∀ {L : Nat} {t : List Nat}, t ∈ T L ↔ t.length = L ∧ Bin t
  | 0, t => by
    simp only [T, List.mem_singleton]
    constructor
    · rintro rfl; exact ⟨rfl, fun _ h => nomatch h⟩
    · rintro ⟨h, _⟩; exact List.length_eq_zero_iff.mp h
  | L + 1, t => by
    simp only [T, List.mem_append, List.mem_map]
    constructor
    · rintro (⟨u, hu, rfl⟩ | ⟨u, hu, rfl⟩)
      all_goals
        obtain ⟨h1, h2⟩ := mem_T.mp hu
        refine ⟨by simp [h1], fun c hc => ?_⟩
        rcases List.mem_cons.mp hc with e | hc
        · subst e; simp
        · exact h2 c hc
    · rintro ⟨h1, h2⟩
      cases t with
      | nil => cases h1
      | cons c u =>
        have hu : u ∈ T L := mem_T.mpr ⟨by simpa using h1, fun x hx => h2 x (List.mem_cons_of_mem _ hx)⟩
        rcases h2 c List.mem_cons_self with e | e
        · exact .inl ⟨u, hu, by rw [e]⟩
        · exact .inr ⟨u, hu, by rw [e]⟩
theorem T_sorted : ∀ L, (T L).Pairwise lx
  | 0 => List.pairwise_singleton _ _
  | L + 1 => by
    simp only [T]
    refine List.pairwise_append.mpr ⟨?_, ?_, ?_⟩
    · exact List.pairwise_map.mpr ((T_sorted L).imp fun h => .inr ⟨rfl, h⟩)
    · exact List.pairwise_map.mpr ((T_sorted L).imp fun h => .inr ⟨rfl, h⟩)
    · intro a ha b hb
      obtain ⟨u, _, rfl⟩ := List.mem_map.mp ha
      obtain ⟨v, _, rfl⟩ := List.mem_map.mp hb
      exact .inl (by decide)
theorem T_len : ∀ L, (T L).length = 2 ^ L
  | 0 => rfl
  | L + 1 => by simp only [T, List.length_append, List.length_map, T_len L, Nat.pow_succ]; omega
/-- the signs that write a number -/
def sgn (n L : Nat) : List Nat := ((List.range L).map fun a => 48 + n / 2 ^ a % 2).reverse
theorem sgn_succ (n L : Nat) : sgn n (L + 1) = (48 + n / 2 ^ L % 2) :: sgn n L := by
  unfold sgn
  rw [List.range_succ, List.map_append, List.reverse_append]
  rfl
theorem sgn_high {m L : Nat} : sgn (2 ^ L + m) L = sgn m L := by
  unfold sgn
  congr 1
  refine List.map_congr_left fun a ha => ?_
  have hl : a < L := List.mem_range.mp ha
  obtain ⟨d, rfl⟩ : ∃ d, L = a + 1 + d := ⟨L - a - 1, by omega⟩
  have e : 2 ^ (a + 1 + d) + m = m + 2 ^ a * (2 * 2 ^ d) := by
    rw [Nat.pow_add, Nat.pow_succ, Nat.mul_assoc]; omega
  rw [e, Nat.add_mul_div_left _ _ (Nat.two_pow_pos a)]
  omega
theorem sgn_T : ∀ L, (List.range (2 ^ L)).map (fun n => sgn n L) = T L
  | 0 => rfl
  | L + 1 => by
    have e : 2 ^ (L + 1) = 2 ^ L + 2 ^ L := by rw [Nat.pow_succ]; omega
    rw [e, List.range_add, List.map_append, List.map_map]
    simp only [T]
    rw [← sgn_T L, List.map_map, List.map_map]
    congr 1
    · refine List.map_congr_left fun n hn => ?_
      have h : n < 2 ^ L := List.mem_range.mp hn
      show sgn n (L + 1) = 48 :: sgn n L
      rw [sgn_succ, Nat.div_eq_of_lt h]
    · refine List.map_congr_left fun n hn => ?_
      have h : n < 2 ^ L := List.mem_range.mp hn
      show sgn (2 ^ L + n) (L + 1) = 49 :: sgn n L
      rw [sgn_succ, sgn_high, Nat.add_div_left _ (Nat.two_pow_pos L), Nat.div_eq_of_lt h]
theorem sgn_len (n L : Nat) : (sgn n L).length = L := by simp [sgn]

/-! ### names that are apart -/
def Apt (ns : List (List Nat)) : Prop := ns.Nodup ∧ ∀ a ∈ ns, ∀ b ∈ ns, a <+: b → a = b
theorem Apt.perm {ns ms : List (List Nat)} (h : Apt ns) (p : ns.Perm ms) : Apt ms :=
  ⟨p.nodup_iff.mp h.1, fun a ha b hb => h.2 a (p.mem_iff.mpr ha) b (p.mem_iff.mpr hb)⟩
theorem apt_one : Apt [[]] := ⟨by simp, fun a ha b hb _ => by simp at ha hb; rw [ha, hb]⟩
def splitAt1 (ns : List (List Nat)) (nm : List Nat) : List (List Nat) := (ns.filter fun o => o != nm) ++ [nm ++ [48], nm ++ [49]]
theorem pre_snoc {o nm : List Nat} {c : Nat} (h : o <+: nm ++ [c]) : o = nm ++ [c] ∨ o <+: nm := List.prefix_concat_iff.mp h
theorem apt_split {ns : List (List Nat)} {nm : List Nat} (h : Apt ns) (hm : nm ∈ ns) : Apt (splitAt1 ns nm) := by
  have A1 : ∀ c o, o ∈ ns → o ≠ nm → ¬ o <+: nm ++ [c] := fun c o ho hn hp => by
    rcases pre_snoc hp with e | hp
    · exact hn (h.2 nm hm o ho (by rw [e]; exact List.prefix_append _ _)).symm
    · exact hn (h.2 o ho nm hm hp)
  have A2 : ∀ c o, o ∈ ns → o ≠ nm → ¬ nm ++ [c] <+: o := fun c o ho hn hp =>
    hn (h.2 nm hm o ho ((List.prefix_append _ _).trans hp)).symm
  have A3 : ∀ c d : Nat, nm ++ [c] <+: nm ++ [d] → nm ++ [c] = nm ++ [d] := fun c d hp => List.IsPrefix.eq_of_length hp (by simp)
  have ne : nm ++ [48] ≠ nm ++ [49] := fun e => by simpa using List.append_cancel_left e
  have mf : ∀ o, o ∈ ns.filter (fun o => o != nm) → o ∈ ns ∧ o ≠ nm := fun o ho => by simpa using List.mem_filter.mp ho
  refine ⟨?_, ?_⟩
  · refine List.nodup_append.mpr ⟨h.1.sublist List.filter_sublist, by simp, ?_⟩
    intro a ha b hb e
    obtain ⟨h1, h2⟩ := mf a ha
    simp only [List.mem_cons, List.not_mem_nil, or_false] at hb
    rcases hb with hb | hb
    · exact A2 48 a h1 h2 (by rw [e, hb]; exact List.prefix_refl _)
    · exact A2 49 a h1 h2 (by rw [e, hb]; exact List.prefix_refl _)
  · intro a ha b hb hp
    rcases List.mem_append.mp ha with ha | ha
    · obtain ⟨h1, h2⟩ := mf a ha
      rcases List.mem_append.mp hb with hb | hb
      · exact h.2 a h1 b (mf b hb).1 hp
      · simp only [List.mem_cons, List.not_mem_nil, or_false] at hb
        rcases hb with hb | hb
        · rw [hb] at hp; exact (A1 _ a h1 h2 hp).elim
        · rw [hb] at hp; exact (A1 _ a h1 h2 hp).elim
    · simp only [List.mem_cons, List.not_mem_nil, or_false] at ha
      rcases List.mem_append.mp hb with hb | hb
      · obtain ⟨h1, h2⟩ := mf b hb
        rcases ha with ha | ha
        · rw [ha] at hp; exact (A2 _ b h1 h2 hp).elim
        · rw [ha] at hp; exact (A2 _ b h1 h2 hp).elim
      · simp only [List.mem_cons, List.not_mem_nil, or_false] at hb
        rcases ha with ha | ha <;> rcases hb with hb | hb <;> rw [ha, hb] at hp ⊢ <;> exact A3 _ _ hp
theorem split_len {ns : List (List Nat)} {nm : List Nat} (h : ns.Nodup) (hm : nm ∈ ns) : (splitAt1 ns nm).length = ns.length + 1 := by
  unfold splitAt1
  rw [← h.erase_eq_filter nm, List.length_append, List.length_erase_of_mem hm]
  have : 0 < ns.length := List.length_pos_of_mem hm
  show ns.length - 1 + 2 = ns.length + 1
  omega
theorem split_all {ns : List (List Nat)} {nm : List Nat} {k : Nat} (hm : nm ∈ ns) (h : ∀ a ∈ ns, a.length ≤ k ∧ Bin a) : ∀ a ∈ splitAt1 ns nm, a.length ≤ k + 1 ∧ Bin a := by
  intro a ha
  rcases List.mem_append.mp ha with ha | ha
  · have := h a (List.mem_filter.mp ha).1
    exact ⟨by omega, this.2⟩
  · have h0 := h nm hm
    simp only [List.mem_cons, List.not_mem_nil, or_false] at ha
    rcases ha with ha | ha
    all_goals
      rw [ha]
      refine ⟨by simp; exact h0.1, fun c hc => ?_⟩
      rcases List.mem_append.mp hc with hc | hc
      · exact h0.2 c hc
      · simp at hc; simp [hc]
/-- a sign put behind a beginning -/
def insAt (hd : List Nat) (c : Nat) (x : List Nat) : List Nat := if x.take hd.length = hd then hd ++ [c] ++ x.drop hd.length else x
theorem take_pre {hd x : List Nat} (h : x.take hd.length = hd) : hd <+: x := by
  rw [← h]; exact List.take_prefix _ _
theorem pre_take {hd x : List Nat} (h : hd <+: x) : x.take hd.length = hd := by
  obtain ⟨r, rfl⟩ := h
  exact List.take_left
theorem ins_pre {hd x y : List Nat} {c : Nat} (h : insAt hd c x <+: insAt hd c y) : x <+: y := by
  unfold insAt at h
  by_cases hx : x.take hd.length = hd
  · rw [if_pos hx] at h
    obtain ⟨r, rfl⟩ := take_pre hx
    rw [List.drop_left] at h
    by_cases hy : y.take hd.length = hd
    · rw [if_pos hy] at h
      obtain ⟨q, rfl⟩ := take_pre hy
      rw [List.drop_left] at h
      exact (List.prefix_append_right_inj hd).mpr ((List.prefix_append_right_inj (hd ++ [c])).mp h)
    · rw [if_neg hy] at h
      exact (hy (pre_take (((List.prefix_append hd [c]).trans (List.prefix_append _ _)).trans h))).elim
  · rw [if_neg hx] at h
    by_cases hy : y.take hd.length = hd
    · rw [if_pos hy] at h
      obtain ⟨q, rfl⟩ := take_pre hy
      rw [List.drop_left, List.append_assoc] at h
      rcases List.prefix_or_prefix_of_prefix h (List.prefix_append hd _) with h1 | h1
      · exact h1.trans (List.prefix_append _ _)
      · exact (hx (pre_take h1)).elim
    · rw [if_neg hy] at h
      exact h
theorem apt_ins {ns : List (List Nat)} {hd : List Nat} {c : Nat} (h : Apt ns) : Apt (ns.map (insAt hd c)) := by
  refine ⟨?_, ?_⟩
  · refine List.pairwise_map.mpr (h.1.imp_of_mem fun {a b} ha hb ne e => ne ?_)
    exact h.2 a ha b hb (ins_pre (hd := hd) (c := c) (by rw [e]; exact List.prefix_refl _))
  · intro a ha b hb hp
    obtain ⟨x, hx, rfl⟩ := List.mem_map.mp ha
    obtain ⟨y, hy, rfl⟩ := List.mem_map.mp hb
    rw [h.2 x hx y hy (ins_pre hp)]
theorem ins_bin {hd x : List Nat} {c : Nat} (hc : c = 48 ∨ c = 49) (hx : Bin x) : Bin (insAt hd c x) := by
  unfold insAt
  split
  · rename_i e
    obtain ⟨r, rfl⟩ := take_pre e
    rw [List.drop_left]
    intro d hd'
    simp only [List.append_assoc, List.mem_append, List.mem_singleton] at hd'
    rcases hd' with h | h | h
    · exact hx d (List.mem_append_left _ h)
    · rw [h]; exact hc
    · exact hx d (List.mem_append_right _ h)
  · exact hx
theorem ins_len {hd x : List Nat} {c : Nat} (h : x.length ≤ 8) (h' : x.take hd.length = hd → x.length < 8) : (insAt hd c x).length ≤ 8 := by
  unfold insAt
  split
  · rename_i e
    have := h' e
    have := take_pre e
    have := this.length_le
    simp
    omega
  · exact h

/-! ### a code: eight names -/
structure Code (N : Nat → List Nat) : Prop where
  ne : ∀ i, i < 8 → N i ≠ []
  ap : ∀ i j, i < 8 → j < 8 → N i <+: N j → i = j
  bin : ∀ i, i < 8 → Bin (N i)
theorem code_of {ns : List (List Nat)} (h : Apt ns) (h8 : ns.length = 8) (hb : ∀ a ∈ ns, Bin a) : Code fun i => ns.getD i [] := by
  have get : ∀ i, i < 8 → ∃ x, ns[i]? = some x ∧ ns.getD i [] = x := fun i hi => by
    have : i < ns.length := by omega
    exact ⟨ns[i], List.getElem?_eq_getElem this, by rw [List.getD_eq_getElem?_getD, List.getElem?_eq_getElem this]; rfl⟩
  have ap : ∀ i j, i < 8 → j < 8 → ns.getD i [] <+: ns.getD j [] → i = j := fun i j hi hj hp => by
    obtain ⟨x, ex, dx⟩ := get i hi
    obtain ⟨y, ey, dy⟩ := get j hj
    rw [dx, dy] at hp
    have e := h.2 x (List.mem_of_getElem? ex) y (List.mem_of_getElem? ey) hp
    subst e
    obtain ⟨hi', ei⟩ := List.getElem?_eq_some_iff.mp ex
    obtain ⟨hj', ej⟩ := List.getElem?_eq_some_iff.mp ey
    exact (List.getElem_inj h.1).mp (ei.trans ej.symm)
  refine ⟨fun i hi e => ?_, ap, fun i hi => ?_⟩
  · have hi' : (if i = 0 then 1 else 0) < 8 := by split <;> omega
    have := ap i (if i = 0 then 1 else 0) hi hi' (by rw [e]; exact List.nil_prefix)
    split at this <;> omega
  · obtain ⟨x, ex, dx⟩ := get i hi
    show Bin (ns.getD i [])
    rw [dx]
    exact hb x (List.mem_of_getElem? ex)

/-! ### programs by the numbers of their words, their texts -/
def Prog (p : List Nat) : Prop := ∀ i ∈ p, i < 7
def enc (N : Nat → List Nat) : List Nat → List Nat
  | [] => N 7
  | i :: p => N i ++ enc N p
def hits (N : Nat → List Nat) (l : List Nat) : List Nat := (List.range 8).filter fun i => l.take (N i).length == N i
def cutF (N : Nat → List Nat) : Nat → List Nat → List Nat → Option (List Nat)
  | 0, _, _ => none
  | k + 1, l, f => match hits N l with
    | [] => none
    | h :: _ => if h = 7 then (if l.drop (N h).length = [] then some f else none) else cutF N k (l.drop (N h).length) (f ++ [h])
def cut (N : Nat → List Nat) (l : List Nat) : Option (List Nat) := cutF N l.length l []
section
variable {N : Nat → List Nat}
theorem hits_app (C : Code N) {i : Nat} (hi : i < 8) (r : List Nat) : hits N (N i ++ r) = [i] := by
  have e : ∀ j ∈ List.range 8, ((N i ++ r).take (N j).length == N j) = (j == i) := fun j hj => by
    have hj8 : j < 8 := List.mem_range.mp hj
    by_cases h : j = i
    · subst h
      rw [List.take_left]
      simp
    · have : ¬ (N i ++ r).take (N j).length = N j := fun q => h (by
        rcases List.prefix_or_prefix_of_prefix (take_pre q) (List.prefix_append (N i) r) with p | p
        · exact C.ap j i hj8 hi p
        · exact (C.ap i j hi hj8 p).symm)
      rw [beq_eq_false_iff_ne.mpr this, beq_eq_false_iff_ne.mpr h]
  unfold hits
  rw [List.filter_congr e]
  have : i = 0 ∨ i = 1 ∨ i = 2 ∨ i = 3 ∨ i = 4 ∨ i = 5 ∨ i = 6 ∨ i = 7 := by omega
  rcases this with rfl | rfl | rfl | rfl | rfl | rfl | rfl | rfl <;> rfl
theorem hits_head {l : List Nat} {h : Nat} {t : List Nat} (e : hits N l = h :: t) : h < 8 ∧ l = N h ++ l.drop (N h).length := by
  have hm : h ∈ hits N l := by rw [e]; exact List.mem_cons_self
  obtain ⟨h1, h2⟩ := List.mem_filter.mp hm
  refine ⟨List.mem_range.mp h1, ?_⟩
  have q : l.take (N h).length = N h := by simpa using h2
  have := List.take_append_drop (N h).length l
  rw [q] at this
  exact this.symm
theorem enc_len (C : Code N) : ∀ {p : List Nat}, Prog p → p.length < (enc N p).length
  | [], _ => by
    show 0 < (N 7).length
    exact List.length_pos_iff.mpr (C.ne 7 (by decide))
  | i :: p, h => by
    have h1 := enc_len C (p := p) fun j hj => h j (List.mem_cons_of_mem _ hj)
    have h2 : i < 7 := h i List.mem_cons_self
    have h3 := List.length_pos_iff.mpr (C.ne i (by omega))
    show p.length + 1 < (N i ++ enc N p).length
    rw [List.length_append]
    omega
theorem cutF_enc (C : Code N) : ∀ (p : List Nat), Prog p → ∀ (k : Nat) (f : List Nat), p.length < k → cutF N k (enc N p) f = some (f ++ p)
  | [], _, k, f, hk => by
    obtain ⟨k, rfl⟩ : ∃ j, k = j + 1 := ⟨k - 1, by have : 0 < k := hk; omega⟩
    have e : hits N (N 7) = [7] := by
      have := hits_app C (i := 7) (by decide) []
      rwa [List.append_nil] at this
    show (match hits N (N 7) with
      | [] => none
      | h :: _ => if h = 7 then (if (N 7).drop (N h).length = [] then some f else none) else cutF N k ((N 7).drop (N h).length) (f ++ [h])) = some (f ++ [])
    rw [e]
    simp
  | i :: p, h, k, f, hk => by
    obtain ⟨k, rfl⟩ : ∃ j, k = j + 1 := ⟨k - 1, by have : p.length + 1 < k := hk; omega⟩
    have h2 : i < 7 := h i List.mem_cons_self
    have e := hits_app C (i := i) (by omega) (enc N p)
    show (match hits N (N i ++ enc N p) with
      | [] => none
      | h :: _ => if h = 7 then (if (N i ++ enc N p).drop (N h).length = [] then some f else none) else cutF N k ((N i ++ enc N p).drop (N h).length) (f ++ [h])) = some (f ++ i :: p)
    rw [e]
    show (if i = 7 then _ else cutF N k ((N i ++ enc N p).drop (N i).length) (f ++ [i])) = _
    rw [if_neg (by omega), List.drop_left, cutF_enc C p (fun j hj => h j (List.mem_cons_of_mem _ hj)) k _ (by have : p.length + 1 < k + 1 := hk; omega)]
    simp
theorem cutF_some : ∀ (k : Nat) (l f r : List Nat), cutF N k l f = some r → ∃ p, Prog p ∧ enc N p = l ∧ r = f ++ p
  | 0, _, _, _, h => by cases h
  | k + 1, l, f, r, h => by
    unfold cutF at h
    split at h
    · cases h
    · rename_i x t e
      obtain ⟨h8, el⟩ := hits_head e
      by_cases h7 : x = 7
      · rw [if_pos h7] at h
        split at h
        · rename_i ed
          refine ⟨[], (fun _ z => (nomatch z)), ?_, ?_⟩
          · rw [ed, List.append_nil, h7] at el
            exact el.symm
          · rw [List.append_nil]; exact (Option.some.inj h).symm
        · cases h
      · rw [if_neg h7] at h
        obtain ⟨p, hp, ep, er⟩ := cutF_some k _ _ _ h
        refine ⟨x :: p, fun i hi => ?_, ?_, by rw [er]; simp⟩
        · rcases List.mem_cons.mp hi with e | hi
          · omega
          · exact hp i hi
        · show N x ++ enc N p = l
          rw [ep]; exact el.symm
theorem cut_enc (C : Code N) {p : List Nat} (h : Prog p) : cut N (enc N p) = some p := by
  unfold cut
  rw [cutF_enc C p h _ _ (enc_len C h)]
  rfl
theorem cut_some {l r : List Nat} (h : cut N l = some r) : Prog r ∧ enc N r = l := by
  obtain ⟨p, hp, e, er⟩ := cutF_some _ _ _ _ h
  rw [List.nil_append] at er
  subst er
  exact ⟨hp, e⟩
theorem enc_bin (C : Code N) : ∀ {p : List Nat}, Prog p → Bin (enc N p)
  | [], _ => C.bin 7 (by decide)
  | i :: p, h => by
    have h2 : i < 7 := h i List.mem_cons_self
    intro c hc
    rcases List.mem_append.mp (show c ∈ N i ++ enc N p from hc) with hc | hc
    · exact C.bin i (by omega) c hc
    · exact enc_bin C (fun j hj => h j (List.mem_cons_of_mem _ hj)) c hc
/-- the programs of a length, in their order -/
def P (N : Nat → List Nat) (L : Nat) : List (List Nat) := (T L).filterMap (cut N)
theorem mem_P (C : Code N) {L : Nat} {p : List Nat} : p ∈ P N L ↔ Prog p ∧ (enc N p).length = L := by
  unfold P
  rw [List.mem_filterMap]
  constructor
  · rintro ⟨t, ht, e⟩
    obtain ⟨h1, h2⟩ := cut_some e
    exact ⟨h1, by rw [h2]; exact (mem_T.mp ht).1⟩
  · rintro ⟨h1, h2⟩
    exact ⟨enc N p, mem_T.mpr ⟨h2, enc_bin C h1⟩, cut_enc C h1⟩
theorem P_len (L : Nat) : (P N L).length ≤ 2 ^ L := by
  rw [← T_len L]
  exact List.length_filterMap_le _ _
theorem P_sorted (L : Nat) : (P N L).Pairwise fun p q => lx (enc N p) (enc N q) := by
  unfold P
  refine List.pairwise_filterMap.mpr ((T_sorted L).imp fun {a b} h p hp q hq => ?_)
  rw [(cut_some hp).2, (cut_some hq).2]
  exact h
theorem P_words {L : Nat} {p : List Nat} (C : Code N) (h : p ∈ P N L) : p.length < L := by
  obtain ⟨h1, h2⟩ := (mem_P C).mp h
  have := enc_len C h1
  omega
/-- a row made of the rows of lesser ones: o are the numbers of the words, ascending by name -/
def blk (N : Nat → List Nat) (R : Nat → List (List Nat)) (L i : Nat) : List (List Nat) :=
  (if i = 7 ∧ (N i).length = L then [[]] else []) ++ (if i ≠ 7 ∧ (N i).length ≤ L then (R (L - (N i).length)).map (i :: ·) else [])
def rowAt (N : Nat → List Nat) (o : List Nat) (R : Nat → List (List Nat)) (L : Nat) : List (List Nat) := o.flatMap (blk N R L)
theorem mem_blk {R : Nat → List (List Nat)} {L i : Nat} {p : List Nat} : p ∈ blk N R L i ↔ (i = 7 ∧ (N i).length = L ∧ p = []) ∨ (i ≠ 7 ∧ (N i).length ≤ L ∧ ∃ q ∈ R (L - (N i).length), p = i :: q) := by
  unfold blk
  rw [List.mem_append]
  constructor
  · rintro (h | h)
    · split at h
      · rename_i c
        exact .inl ⟨c.1, c.2, by simpa using h⟩
      · cases h
    · split at h
      · rename_i c
        obtain ⟨q, hq, e⟩ := List.mem_map.mp h
        exact .inr ⟨c.1, c.2, q, hq, e.symm⟩
      · cases h
  · rintro (⟨h1, h2, h3⟩ | ⟨h1, h2, q, hq, e⟩)
    · left; rw [if_pos ⟨h1, h2⟩, h3]; exact List.mem_cons_self
    · right; rw [if_pos ⟨h1, h2⟩, e]; exact List.mem_map.mpr ⟨q, hq, rfl⟩
theorem blk_begins {R : Nat → List (List Nat)} {L i : Nat} {p : List Nat} (h : p ∈ blk N R L i) : ∃ r, enc N p = N i ++ r := by
  rcases mem_blk.mp h with ⟨h1, _, h3⟩ | ⟨_, _, q, _, e⟩
  · exact ⟨[], by rw [h3, h1, List.append_nil]; rfl⟩
  · exact ⟨enc N q, by rw [e]; rfl⟩
theorem row_P (C : Code N) {o : List Nat} (ho : o.Perm (List.range 8)) (hs : o.Pairwise fun i j => lx (N i) (N j)) (L : Nat) : rowAt N o (P N) L = P N L := by
  have o8 : ∀ i, i ∈ o ↔ i < 8 := fun i => ho.mem_iff.trans List.mem_range
  refine uniq (R := fun p q => lx (enc N p) (enc N q)) (fun h h' => lx_asymm h h') ?_ (P_sorted L) fun p => ?_
  · unfold rowAt
    refine List.pairwise_flatMap.mpr ⟨fun i _ => ?_, hs.imp_of_mem fun {i j} hi hj h x hx y hy => ?_⟩
    · unfold blk
      refine List.pairwise_append.mpr ⟨?_, ?_, fun a ha b hb => ?_⟩
      · split
        · exact List.pairwise_singleton _ _
        · exact List.Pairwise.nil
      · split
        · exact List.pairwise_map.mpr ((P_sorted _).imp fun h => lx_app _ h)
        · exact List.Pairwise.nil
      · split at ha
        · rename_i c
          rw [if_neg (fun z => z.1 c.1)] at hb
          cases hb
        · cases ha
    · obtain ⟨r, e⟩ := blk_begins hx
      obtain ⟨r', e'⟩ := blk_begins hy
      show lx (enc N x) (enc N y)
      rw [e, e']
      refine lx_ext h (fun hp => ?_) _ _
      have := C.ap i j ((o8 i).mp hi) ((o8 j).mp hj) hp
      subst this
      exact lx_irrefl _ h
  · unfold rowAt
    rw [List.mem_flatMap, mem_P C]
    constructor
    · rintro ⟨i, hi, h⟩
      rcases mem_blk.mp h with ⟨h1, h2, h3⟩ | ⟨h1, h2, q, hq, e⟩
      · subst h3
        exact ⟨fun _ z => (nomatch z), by rw [h1] at h2; exact h2⟩
      · obtain ⟨g1, g2⟩ := (mem_P C).mp hq
        have i8 := (o8 i).mp hi
        subst e
        refine ⟨fun j hj => ?_, ?_⟩
        · rcases List.mem_cons.mp hj with e | hj
          · omega
          · exact g1 j hj
        · show (N i ++ enc N q).length = L
          rw [List.length_append, g2]
          omega
    · rintro ⟨h1, h2⟩
      cases p with
      | nil => exact ⟨7, (o8 7).mpr (by decide), mem_blk.mpr (.inl ⟨rfl, h2, rfl⟩)⟩
      | cons i q =>
        have i7 : i < 7 := h1 i List.mem_cons_self
        have el : (N i).length + (enc N q).length = L := by
          rw [← List.length_append]; exact h2
        exact ⟨i, (o8 i).mpr (by omega), mem_blk.mpr (.inr ⟨by omega, by omega, q, (mem_P C).mpr ⟨fun j hj => h1 j (List.mem_cons_of_mem _ hj), by omega⟩, rfl⟩)⟩
/-- how many programs have a length -/
def cnt (N : Nat → List Nat) (L : Nat) : Nat := (P N L).length
theorem perm_sum {α : Type} {l1 l2 : List α} (f : α → Nat) (h : l1.Perm l2) : (l1.map f).sum = (l2.map f).sum := (h.map f).sum_nat
theorem cnt_eq (C : Code N) {o : List Nat} (ho : o.Perm (List.range 8)) (hs : o.Pairwise fun i j => lx (N i) (N j)) (L : Nat) :
    cnt N L = ((List.range 7).map fun i => if (N i).length ≤ L then cnt N (L - (N i).length) else 0).sum + if L = (N 7).length then 1 else 0 := by
  have e1 : cnt N L = (o.map fun i => (blk N (P N) L i).length).sum := by
    unfold cnt
    rw [← row_P C ho hs L]
    unfold rowAt
    rw [List.length_flatMap]
  rw [e1, perm_sum _ ho, show List.range 8 = List.range 7 ++ [7] from rfl, List.map_append, List.sum_append]
  congr 1
  · congr 1
    refine List.map_congr_left fun i hi => ?_
    have i7 : i < 7 := List.mem_range.mp hi
    unfold blk
    rw [if_neg (fun z => by omega), List.nil_append]
    by_cases h : (N i).length ≤ L
    · rw [if_pos ⟨by omega, h⟩, if_pos h, List.length_map]; rfl
    · rw [if_neg (fun z => h z.2), if_neg h]; rfl
  · have e : (blk N (P N) L 7).length = if L = (N 7).length then 1 else 0 := by
      unfold blk
      rw [if_neg (c := 7 ≠ 7 ∧ (N 7).length ≤ L) (fun z => z.1 rfl), List.append_nil]
      by_cases h : L = (N 7).length
      · rw [if_pos ⟨rfl, h.symm⟩, if_pos h]; rfl
      · rw [if_neg (fun z => h z.2.symm), if_neg h]; rfl
    rw [List.map_cons, List.map_nil, e]
    simp
end
end K15

set_option Elab.async false
set_option linter.all false
set_option maxRecDepth 100000
set_option maxHeartbeats 4000000
/-! The program's top by places, and the facts that the walks ask of it. -/
namespace K15
open PySem PySem.Spec PyProof.Rows L2
abbrev R : PySem.W.OpenRow := PySem.W.OpenLaw.row PySem.Challenge.rw_duetickers_k15_whole_all_texts_of_a_leng
def top (i : Nat) : Stmt := PySem.Challenge.pw_duetickers_k15_whole_all_texts_of_a_leng.main.body.getD i (.Pass ⟨0, 0, 0, 0⟩)
abbrev sIsInteger : Stmt := top 10
abbrev sIsWithin : Stmt := top 11
abbrev sIsName : Stmt := top 12
abbrev sNeedNumber : Stmt := top 13
abbrev sIsApart : Stmt := top 15
abbrev sInit : Stmt := inClass (top 20) 1
abbrev sIsShort : Stmt := top 21
abbrev sNeedTongue : Stmt := top 25
abbrev sManyNext : Stmt := top 30
abbrev sTableOf : Stmt := top 31
abbrev sChoicesOf : Stmt := top 32
abbrev sAllOf : Stmt := top 33
abbrev sRowAt : Stmt := top 34
abbrev sHowMany : Stmt := top 35
abbrev sProgramsOf : Stmt := top 36
abbrev sEwer : Stmt := top 38
abbrev sSip : Stmt := top 39
abbrev sPick : Stmt := top 40
abbrev sNames : Stmt := top 41
abbrev sCut : Stmt := top 42
abbrev sSigns : Stmt := top 43
abbrev sLaw : Stmt := top 44

def gl (x : String) (st : Stmt) (dfl : List He.Dv := []) : He.DefD := ⟨(Str.ofString x, none), Str.ofString x, Str.ofString x, defArgs st, defBody st, defScope st, dfl, []⟩
def fn : List He.DefD := [
  gl "is_integer" sIsInteger, gl "is_within" sIsWithin, gl "is_name" sIsName, gl "need_number" sNeedNumber, gl "is_apart" sIsApart,
  ⟨("Tongue", some "__init__"), "__init__", "Tongue.__init__", defArgs sInit, defBody sInit, defScope sInit, [], []⟩,
  gl "is_short" sIsShort, gl "need_tongue" sNeedTongue [.str "tongue"], gl "many_next" sManyNext, gl "table_of" sTableOf,
  gl "choices_of" sChoicesOf, gl "all_of" sAllOf, gl "row_at" sRowAt, gl "how_many" sHowMany, gl "programs_of" sProgramsOf,
  gl "_law_ewer" sEwer, gl "_law_sip" sSip, gl "_law_pick" sPick, gl "_law_names" sNames, gl "_law_cut" sCut, gl "_law_signs" sSigns, gl "law" sLaw]
def fa : List He.Fa := [
  .glo "is_integer", .glo "is_within", .glo "is_name", .glo "need_number", .glo "is_apart", .glo "Tongue", .glo "is_short", .glo "need_tongue", .glo "many_next", .glo "table_of",
  .glo "choices_of", .glo "all_of", .glo "row_at", .glo "how_many", .glo "programs_of", .glo "_law_ewer", .glo "_law_sip", .glo "_law_pick", .glo "_law_names", .glo "_law_cut", .glo "_law_signs", .glo "law",
  .free "isinstance", .free "int", .free "bool", .free "str", .free "len", .free "all", .free "any", .free "sorted", .free "zip", .free "list", .free "tuple", .free "range", .free "sum", .free "max", .free "abs", .free "repr", .free "enumerate",
  .str "SIGNS" "01", .str "END" "end", .int "MOST_SIGNS" 60, .int "MOST_NAME" 8, .int "MOST_LENGTH" 400, .int "MOST_LISTED" 40, .int "MOST_PROGRAMS" 2000,
  .cls "Tongue", .mkr "Tongue", .noat "Tongue" "names", .keep "Tongue"]
/-- the words -/
def wds : List Str := ["say", "up", "down", "swap", "add", "times", "skip", "end"]
def tupAt (K : PySem.W.Frag) (a : Addr) (vs : List V) : Bool := match K.lookup a with
  | some ⟨.type c, _, .seq its _, _⟩ => decide (c = "tuple") && (decide (its.size ≤ sizeLine) && He.relAll vs its.toList)
  | _ => false
/-- where the words' tuple stands -/
def wordsAt (K : PySem.W.Frag) : Addr := match PySem.W.findCls K (.ref (He.ga K "Tongue")) (.type "type") "WORDS" with
  | some (.val (.ref a)) => a
  | _ => 0
def wordsB (K : PySem.W.Frag) : Bool := match PySem.W.findCls K (.ref (He.ga K "Tongue")) (.type "type") "WORDS" with
  | some (.val (.ref a)) => tupAt K a (wds.map V.str)
  | _ => false
def exB (K : PySem.W.Frag) : Bool :=
  PySem.W.readsIn K (He.ga K "Tongue") (.type "type") && (He.eqO (PySem.W.specialIn K (.ref (He.ga K "Tongue")) "__getattribute__") (some (some (.builtin "type.__getattribute__"))) && (wordsB K &&
    (He.eqO (PySem.W.findIn K (.ref (He.ga K "Tongue")) "__class__") (some (some (.builtin "object.__class__"))) && (He.eqO (PySem.W.specialIn K (.builtin "object.__class__") "__get__") (some (some (.builtin "getset_descriptor.__get__"))) &&
      (decide (PySem.W.takesIn K (.builtin "object.__class__") = some true) && decide (PySem.W.mroIn K (He.ga K "Tongue") (.type "object") = some true))))))
abbrev AlK : Type := He.AlD × Bool
def obsK (K : PySem.W.Frag) : AlK := (He.obsD fa fn K, exB K)
def asK (g : Addr → Option Obj) : List Addr := cStatics :: He.asD g 5
def SaysK (K : PySem.W.Frag) : Prop := obsK K = (He.valD fn, true)
def hk : PySem.W.Hook where
  α := AlK
  obs := fun s => obsK (He.frG s.heap.get? (asK s.heap.get?))
  val := fun _ => (He.valD fn, true)
  says := fun _ h => ∃ K : PySem.W.Frag, K.In h ∧ SaysK K
  of := fun _ _ e => ⟨_, He.frG_in, e⟩
  keeps := fun _ _ _ ⟨K, hK, c⟩ k => ⟨K, PySem.W.Frag.In.keeps hK k, c⟩
def ob (s : PySem.W.SharedT) : AlK := obsK (He.frG (HandSHeadRun.getT s) (asK (HandSHeadRun.getT s)))
theorem ob_eq (s : PySem.W.SharedT) : ob s = hk.obs s.abs := by
  have e : HandSHeadRun.getT s = s.abs.heap.get? := funext (HandSHeadRun.getT_eq s)
  unfold ob
  rw [e]
  rfl
def loose : List Str := (["_wall", "TickError", "BadNumber", "BadTongue", "TooMany", "BadText", "SIGNS", "MOST_SIGNS", "is_integer", "is_within", "is_name", "need_number"] : List Str) ++ (["is_apart", "Scan", "MOST_NAME", "Tongue", "is_short", "take_names", "END", "need_tongue", "MOST_LENGTH", "MOST_LISTED", "MOST_PROGRAMS", "many_next"] : List Str) ++ (["table_of", "choices_of", "all_of", "row_at", "how_many", "programs_of", "_law_ewer", "_law_sip", "_law_pick", "_law_names", "_law_cut", "_law_signs"] : List Str)
end K15

set_option Elab.async false
set_option linter.all false
set_option maxRecDepth 100000
set_option maxHeartbeats 4000000
namespace K15
open PySem PySem.Spec PyProof.Rows L2
/-! ### repr of data (where no repr is under way) -/
section
variable {X : Cx}
theorem call_reprD (hg : X.A.guards = some []) (hu : X.A.units + 64 < cLine) : CallR X (.builtin "repr") (fun xs H Q => ∃ a d, xs = [.ref a] ∧ Dp X.K H (.ref a) d ∧ d.showable = true ∧ d.hasDict = false ∧ d.depth ≤ 60 ∧ d.shown.length ≤ sizeLine ∧ Q (.str d.shown) H) := by
  intro pins s σ H xs us Q I r h
  obtain ⟨a, d, rfl, hd, h1, h2, h3, h4, q⟩ := h
  obtain ⟨u, rfl, e⟩ := vals1 r
  obtain ⟨as, rd⟩ := Dp.reads I d (.ref a) u hd e
  obtain rfl : u = Value.ref a := e
  refine repr_of_reads' rd h1 (PyData.noDict_hsm h2) hg (by omega) (fun _ _ z => z) (fun h' t tk hk => ?_) h4
  exact ⟨.str d.shown, H, I.kept hk, ⟨t, rfl⟩, q⟩
end
theorem joinLen : ∀ (ts : List Str) (m : Nat), (∀ t ∈ ts, t.length ≤ m) → (Str.join ", " ts).length ≤ ts.length * (m + 2)
  | [], m, _ => Nat.zero_le _
  | [t], m, h => by
    have := h t List.mem_cons_self
    show t.length ≤ 1 * (m + 2)
    omega
  | t :: u :: r, m, h => by
    have h1 := h t List.mem_cons_self
    have h2 := joinLen (u :: r) m fun x hx => h x (List.mem_cons_of_mem _ hx)
    have e : (", " : Str).length = 2 := by decide +kernel
    show (t ++ ", " ++ Str.join ", " (u :: r)).length ≤ (r.length + 1 + 1) * (m + 2)
    rw [Str.length_append, Str.length_append, e]
    have h3 : (u :: r).length * (m + 2) = (r.length + 1) * (m + 2) := rfl
    rw [h3] at h2
    have h4 : (r.length + 1 + 1) * (m + 2) = (r.length + 1) * (m + 2) + (m + 2) := by rw [Nat.add_mul (r.length + 1) 1]; omega
    omega
theorem tupLen (ts : List Str) (m : Nat) (h : ∀ t ∈ ts, t.length ≤ m) : (tupleText ts).length ≤ ts.length * (m + 2) + 3 := by
  have h1 := joinLen ts m h
  unfold tupleText
  rw [Str.length_append, Str.length_append]
  have e0 : ("(" : Str).length = 1 := by decide +kernel
  have e1 : ((",)" : String) : Str).length = 2 := by decide +kernel
  have e2 : ((")" : String) : Str).length = 1 := by decide +kernel
  have : ((if ts.length == 1 then ",)" else ")" : String) : Str).length ≤ 2 := by
    split
    · rw [e1]; exact Nat.le_refl _
    · rw [e2]; decide
  rw [e0]
  omega
/-- the data of programs -/
def wd (i : Nat) : Str := wds.getD i "say"
def dProg (p : List Nat) : PyData := .tuple (p.map fun i => .str (wd i))
def dProgs (ps : List (List Nat)) : PyData := .tuple (ps.map dProg)
theorem showAll_of : ∀ {ds : List PyData}, (∀ d ∈ ds, d.showable = true) → PyData.showableAll ds = true
  | [], _ => by simp [PyData.showableAll]
  | d :: ds, h => by simp [PyData.showableAll, h d List.mem_cons_self, showAll_of fun x hx => h x (List.mem_cons_of_mem _ hx)]
theorem noDictAll_of : ∀ {ds : List PyData}, (∀ d ∈ ds, d.hasDict = false) → PyData.hasDictAll ds = false
  | [], _ => by simp [PyData.hasDictAll]
  | d :: ds, h => by simp [PyData.hasDictAll, h d List.mem_cons_self, noDictAll_of fun x hx => h x (List.mem_cons_of_mem _ hx)]
theorem depthAll_of : ∀ {ds : List PyData} {m : Nat}, (∀ d ∈ ds, d.depth ≤ m) → PyData.depthAll ds ≤ m
  | [], m, _ => by simp [PyData.depthAll]
  | d :: ds, m, h => by
    have h1 := h d List.mem_cons_self
    have h2 := depthAll_of (ds := ds) (m := m) fun x hx => h x (List.mem_cons_of_mem _ hx)
    simp only [PyData.depthAll]
    omega
theorem shownAll_map {α : Type} (f : α → PyData) : ∀ xs : List α, PyData.shownAll (xs.map f) = xs.map fun x => (f x).shown
  | [] => by simp [PyData.shownAll]
  | x :: xs => by simp [PyData.shownAll, shownAll_map f xs]
theorem wd_short (i : Nat) : (reprText (wd i)).length ≤ 60 := by
  have e : ∀ z ∈ wds, (reprText z).length ≤ 60 := by decide +kernel
  have e2 : (reprText (Str.ofString "say")).length ≤ 60 := by decide +kernel
  unfold wd
  rw [List.getD_eq_getElem?_getD]
  cases h : wds[i]? with
  | none => exact e2
  | some z => exact e z (List.mem_of_getElem? h)
theorem prog_short {p : List Nat} (h : p.length ≤ 100) : (dProg p).shown.length ≤ 6300 := by
  show (tupleText (PyData.shownAll (p.map fun i => PyData.str (wd i)))).length ≤ 6300
  rw [shownAll_map]
  have := tupLen (p.map fun i => (PyData.str (wd i)).shown) 60 fun t ht => by
    obtain ⟨i, _, rfl⟩ := List.mem_map.mp ht
    exact wd_short i
  rw [List.length_map] at this
  omega
theorem progs_short {ps : List (List Nat)} (h : ps.length ≤ 2000) (hp : ∀ p ∈ ps, p.length ≤ 100) : (dProgs ps).shown.length ≤ sizeLine := by
  show (tupleText (PyData.shownAll (ps.map dProg))).length ≤ sizeLine
  rw [shownAll_map]
  have := tupLen (ps.map fun p => (dProg p).shown) 6300 fun t ht => by
    obtain ⟨p, hm, rfl⟩ := List.mem_map.mp ht
    exact prog_short (hp p hm)
  rw [List.length_map] at this
  have e : sizeLine = 16777216 := sizeLine_eq
  omega
theorem progs_show (ps : List (List Nat)) : (dProgs ps).showable = true ∧ (dProgs ps).hasDict = false ∧ (dProgs ps).depth ≤ 60 := by
  have one : ∀ p, (dProg p).showable = true ∧ (dProg p).hasDict = false ∧ (dProg p).depth ≤ 20 := fun p => by
    refine ⟨?_, ?_, ?_⟩
    · show PyData.showable (.tuple _) = true
      simp only [PyData.showable]
      refine showAll_of fun d hd => ?_
      obtain ⟨i, _, rfl⟩ := List.mem_map.mp hd
      simp [PyData.showable]
    · show PyData.hasDict (.tuple _) = false
      simp only [PyData.hasDict]
      refine noDictAll_of fun d hd => ?_
      obtain ⟨i, _, rfl⟩ := List.mem_map.mp hd
      simp [PyData.hasDict]
    · show PyData.depth (.tuple _) ≤ 20
      simp only [PyData.depth]
      have := depthAll_of (ds := p.map fun i => PyData.str (wd i)) (m := 10) fun d hd => by
        obtain ⟨i, _, rfl⟩ := List.mem_map.mp hd
        simp [PyData.depth]
      omega
  refine ⟨?_, ?_, ?_⟩
  · show PyData.showable (.tuple _) = true
    simp only [PyData.showable]
    refine showAll_of fun d hd => ?_
    obtain ⟨i, _, rfl⟩ := List.mem_map.mp hd
    exact (one i).1
  · show PyData.hasDict (.tuple _) = false
    simp only [PyData.hasDict]
    refine noDictAll_of fun d hd => ?_
    obtain ⟨i, _, rfl⟩ := List.mem_map.mp hd
    exact (one i).2.1
  · show PyData.depth (.tuple _) ≤ 60
    simp only [PyData.depth]
    have := depthAll_of (ds := ps.map dProg) (m := 20) fun d hd => by
      obtain ⟨i, _, rfl⟩ := List.mem_map.mp hd
      exact (one i).2.2
    omega
end K15

set_option Elab.async false
set_option linter.all false
set_option maxRecDepth 100000
set_option maxHeartbeats 4000000
/-! The law's own entry: like a def's, but it is known that the caller is the claim's own (so that no repr is under way). -/
namespace K15
open PySem PySem.Spec PyProof.Rows L2
section
variable {P : Program} {w : World} {K : PySem.W.Frag} {mg : Str → Option Value} {base : Heap}
/-- the promise of a def that is called by the claim's own caller -/
def AtTop (P : Program) (w : World) (K : PySem.W.Frag) (mg : Str → Option Value) (base : Heap) (f : Addr) (sp : Sp) : Prop :=
  ∀ (s : Shared) (H : Hp) (args : List V) (us : List Value) (Q : VK), Env0 P w K mg base callerA [] s H → Vals args us → sp args H Q E0 →
    codeAny (model P w) callerA (.call (.ref f) ⟨us, []⟩) (CR CX0 [] P w H s Q E0) s
theorem atTop_of {f : Addr} {fd : FuncData} {k : Nat} {x : Str} {params : Arguments} {body : List Stmt} {scope : Scope} {N ps : List Str} {sp : Sp} (F : FunD K x x params body scope [] [] f fd) (S : FnScope N ps scope) (hr : Room (k + 1) callerA)
    (hb : ∀ (s : Shared) (us : List Value), us.length = ps.length → BindsTo s fd ⟨us, []⟩ (ps.zip us)) (len : ∀ vs H Q E, sp vs H Q E → vs.length = ps.length)
    (walk : ∀ (X : Cx) (s : Shared) (H : Hp) (vs : List V) (Q : VK) (cdv : Value), X = cxOf CX0 P w K mg base N x scope f cdv callerA [] s H E0 → X.A.guards = some [] → Room k X.A → sp vs H Q E0 →
      ∃ t, PSs X body t ∧ t { nx := fun _ H' => Q .non H', rt := Q } (start N vs) H) : AtTop P w K mg base f sp := by
  intro s H args us Q en rel want
  obtain ⟨⟨oc, od, dV, kV, doc, pm, an, cdv, ct, osl, efd, look, code, _, _⟩, _⟩ := F
  subst efd
  have many : args.length = ps.length := len _ _ _ _ want
  have inK : K.In s.heap := en.mod.kin.keeps fun b o z => (en.bs b o z).1
  have parts : ∀ y ∈ ps.zip us, scope.names.lookup y.1 = some .local ∨ (scope.names.lookup y.1 = some .cell ∧ ((cellsFrom (s.heap.objs.size + 1) scope.names []).lookup y.1).isSome = true) := by
    rintro ⟨n, v⟩ hy
    cases S.par n (List.of_mem_zip hy).1 with
    | inl q => exact .inl q
    | inr q => exact .inr ⟨q, PySem.W.cellsFrom_some _ _ _ (.inl q)⟩
  refine codeAny_call_function hr.depth (inK _ _ look) rfl S.co S.gen rfl (PySem.W.codeRec_of inK code) (hb s us (by rw [← rel.length]; exact many) _ _ _ _ ?_)
  refine wpAny_newFunctionEnv_cells S.kind parts fun env ee s1 fresh => ?_
  subst ee
  refine ⟨(en.mod.nolimit.keeps fun b o z => (en.bs b o z).1).keeps fresh.toInCall.keep, codeAny_func ?_⟩
  obtain ⟨t, body_ok, holds⟩ := walk (cxOf CX0 P w K mg base N x scope f cdv callerA [] s H E0) s H args Q cdv rfl rfl (hr.deeper _) want
  have I0 : Inv (cxOf CX0 P w K mg base N x scope f cdv callerA [] s H E0) [] (start N args) H s1 := inv_start S hr.hd en many rel fresh
  refine wpAny_mono (body_ok.run [] s1 (start N args) H _ I0 holds) (fun flow s2 done => ?_) fun e s2 z => z
  cases flow with
  | next =>
    obtain ⟨_, H2, J, q⟩ := done
    exact ⟨.non, H2, J.os, J.bare, J.base, J.hok, rfl, q⟩
  | ret u =>
    obtain ⟨v, _, H2, J, rv, q⟩ := done
    exact ⟨v, H2, J.os, J.bare, J.base, J.hok, rv, q⟩
  | brk => exact done.elim fun _ z => z.elim fun _ z => z.2.elim
  | cont => exact done.elim fun _ z => z.elim fun _ z => z.2.elim
end
/-- the heap's view at the law's entry: the script alone may be tracked, as a known list -/
def scriptHp (a : Addr) (o : Obj) (xs : List V) : Hp := fun b => if b = a then some (.frz o (.lst xs)) else none
theorem end_ok {P : Program} {w : World} {H : Hp} {s s' : Shared} {r : Result} (only : Only H) (hok : HOk P w H s.heap) (h : CR CX0 [] P w H s (fun v _ => v = .bl true) E0 r s') :
    r = .ok (.ret (.bool true)) ∧ OldK s.heap s'.heap ∧ s'.os = s.os ∧ AllBare s'.gens := by
  match r, h with
  | .error e, h => exact h.elim
  | .ok .next, h => exact h.elim
  | .ok .brk, h => exact h.elim
  | .ok .cont, h => exact h.elim
  | .ok (.ret u), ⟨v, H', os, bare, un, hok', rv, q⟩ =>
    have q' : v = V.bl true := q
    subst q'
    have eu : u = Value.bool true := rv
    refine ⟨by rw [eu], OldK.of_keep fun b o e => ?_, os, bare⟩
    rcases only b with n | ⟨ob, xs, n⟩
    · exact un.keep b o e n (fun z => by cases z) (fun z => by cases z)
    · have g1 := (hok b _ n).1
      have g2 := (hok' b _ (un.frzs b ob _ n)).1
      rw [e] at g1
      rw [g2, ← g1]
theorem law_at {P : Program} {w : World} {K : PySem.W.Frag} {mg mb : Str → Option Value} {f a : Addr} {sp : Sp} {s : Shared} {vs : List Value} {ns : List Int} (KX : K.In s.heap) (g1 : s.heap.Ns mainGlobals mg) (g2 : s.heap.Ns builtinsNs mb)
    (g3 : ∀ x : Str, x ≠ "__name__" → mb x = bootBuiltins x) (g4 : s.heap.NoLimit) (g5 : s.gens = #[]) (ha : s.heap.get? a = some { cls := .type "list", data := .seq vs.toArray }) (hi : IntsAre vs ns) (hl : ns.length ≤ sizeLine)
    (F : ∀ base : Heap, AtTop P w K mg base f sp) (hsp : ∀ H : Hp, SqL K H a (ns.map V.int) → sp [.ref a] H (fun v _ => v = .bl true) E0) :
    codeAny (model P w) callerA (.call (.ref f) ⟨[.ref a], []⟩) (fun r s' => r = .ok (.ret (.bool true)) ∧ OldK s.heap s'.heap ∧ s'.os = s.os ∧ AllBare s'.gens) s := by
  have rel := vals_ints hi
  -- any view that tracks nothing but the script, and that only if it is none of the module's objects
  have go : ∀ H : Hp, Only H → HOk P w H s.heap → SqL K H a (ns.map V.int) → (∀ b, H b ≠ none → b = a ∧ K.lookup a = none) →
      codeAny (model P w) callerA (.call (.ref f) ⟨[.ref a], []⟩) (fun r s' => r = .ok (.ret (.bool true)) ∧ OldK s.heap s'.heap ∧ s'.os = s.os ∧ AllBare s'.gens) s := by
    intro H only hok hS alone
    have low : ∀ b o, s.heap.get? b = some o → (∀ es ep, o.data = .dict es ep → H b = none) := fun b o e es ep d => by
      refine Classical.byContradiction fun n => ?_
      obtain ⟨rfl, _⟩ := alone b n
      rw [ha] at e
      cases e
      cases d
    have nsH : ∀ {b : Addr} {m : Str → Option Value}, s.heap.Ns b m → (hidT s.heap H).Ns b m := by
      rintro b m ⟨o, es, ep, e, d, rest⟩
      exact ⟨o, es, ep, hidT_get e (low b o e es ep d), d, rest⟩
    have KH : K.In (hidT s.heap H) := fun b o e => hidT_get (KX b o e) (by
      refine Classical.byContradiction fun n => ?_
      obtain ⟨rfl, z⟩ := alone b n
      rw [z] at e
      cases e)
    have lim : (hidT s.heap H).NoLimit := by
      obtain ⟨mc, z1, z2⟩ := g4
      exact ⟨mc, nsH z1, z2⟩
    have en : Env0 P w K mg (hidT s.heap H) callerA [] s H :=
      { frames := rfl, mod := { kin := KH, glob := nsH g1, blt := ⟨mb, nsH g2, g3⟩, nolimit := lim }, bs := fun b o e => of_hidT e, bsz := Nat.le_of_eq (hidT_size _ _), funs := trivial, frf := fun b z => (by cases z), hok := hok, bare := .of_eq g5 }
    exact codeAny_mono (F _ s H [.ref a] [.ref a] _ en (.cons rfl .nil) (hsp H hS)) fun r s' z => end_ok only hok z
  have fits : (ns.map V.int).length ≤ sizeLine := by rw [List.length_map]; exact hl
  cases known : K.lookup a with
  | none =>
    refine go (scriptHp a { cls := .type "list", data := .seq vs.toArray } (ns.map V.int)) (fun b => ?_) (fun b u e => ?_) (.inl (.inr ⟨{ cls := .type "list", data := .seq vs.toArray }, if_pos rfl⟩)) fun b z => ⟨?_, known⟩
    · by_cases q : b = a
      · exact .inr ⟨_, _, if_pos q⟩
      · exact .inl (if_neg q)
    · by_cases q : b = a
      · subst q
        have e' := (if_pos rfl).symm.trans e
        cases e'
        exact ⟨ha, fits, vs, _, rel, ha⟩
      · cases (if_neg q).symm.trans e
    · exact Classical.byContradiction fun q => z (if_neg q)
  | some o =>
    have e := KX a o known
    rw [ha] at e
    cases e
    refine go (fun _ => none) (fun _ => .inl rfl) (fun b u z => by cases z) (.inr ⟨_, vs.toArray, _, known, rfl, rfl, rfl, ?_, ?_⟩) fun b z => (z rfl).elim
    · rw [List.size_toArray, hi.length]; exact hl
    · simpa using rel
theorem walk_top {l : PySem.W.OpenLaw} {n : Nat} {q : Program} {loose : List Str} {XP : (Str → Option Value) → Heap → Prop} {YP : World → Heap → Prop} {d : DefRec} (hn : l.most = some n) (hn2 : n ≤ sizeLine) (hdf : d.params.defaults = [])
    (F : ∀ (w : World) (mg : Str → Option Value) (f : Addr) (h : Heap), YP w h → h.Ns mainGlobals mg → mg d.name = some (.ref f) →
      ∃ (K : PySem.W.Frag) (sp : Sp), K.In h ∧ (∀ (H : Hp) (a : Addr) (ns : List Int), ns.length ≤ n → SqL K H a (ns.map V.int) → sp [.ref a] H (fun v _ => v = .bl true) E0) ∧ ∀ base : Heap, K.In base → base.Ns mainGlobals mg → AtTop l.prog w K mg base f sp) :
    PySem.W.WalkO q loose XP YP l.row.toRowW d [] (fun f vs => PySem.call f vs) := by
  refine Att.attach_call hn hdf fun w s0 s1 mg mb f o pm cd doc a vs ns G Y ho hd hcd hmg hobj hints hlen hg => ?_
  obtain ⟨K, sp, KX, want, ok⟩ := F w mg f _ Y G.T.g hmg
  refine law_at KX G.T.g G.T.b G.T.builtins G.T.nolimit hg hobj hints (Nat.le_trans hlen hn2) (fun base => ?_) fun H hS => want H a ns hlen hS
  intro s H args us Q en
  exact ok base en.mod.kin en.mod.glob s H args us Q en
end K15

set_option Elab.async false
set_option linter.all false
set_option maxRecDepth 100000
set_option maxHeartbeats 4000000
/-! zip(tuple, tuple) whose pairs are kept: one turn, the end, all turns collected into a list. -/
namespace K15
open PySem PySem.Spec PyProof.Rows RZ
section
variable {prog : Program} {w : World} {A : Around} {E : Value → Shared → Prop} {s : Shared} {z TI TO i1 i2 l1 l2 : Addr}
/-- a zip over two tuples ahead of turn i; S: what is not its own -/
structure ZAt (h : Heap) (z TI TO i1 i2 l1 l2 S : Addr) (xs ys : Array Value) (i : Nat) : Prop where
  tin : IsPair h TI (.ref i1) (.ref i2)
  it1 : h.IsTupleIter i1 l1 i
  it2 : h.IsTupleIter i2 l2 i
  tp1 : h.IsTuple l1 xs
  tp2 : h.IsTuple l2 ys
  own : (IsZip h z TI TO .none ∧ ∃ a b, IsPair h TO a b) ∨ ∃ T f oT, IsZipHeld h z TI TO T f ∧ h.get? T = some oT ∧ T ≠ z ∧ T ≠ i1 ∧ T ≠ i2 ∧ T ≠ S
def zAll (z TI TO i1 i2 l1 l2 : Addr) : List Addr := [z, TI, TO, i1, i2, l1, l2]
theorem ZAt.keep {h h' : Heap} {S : Addr} {xs ys : Array Value} {i : Nat} (Z : ZAt h z TI TO i1 i2 l1 l2 S xs ys i) (hS : S ∉ zAll z TI TO i1 i2 l1 l2) (k : ∀ b o, b ≠ S → h.get? b = some o → h'.get? b = some o) : ZAt h' z TI TO i1 i2 l1 l2 S xs ys i := by
  have ne : ∀ b ∈ zAll z TI TO i1 i2 l1 l2, b ≠ S := fun b hb e => hS (e ▸ hb)
  have nz := ne z (by simp [zAll])
  have nTI := ne TI (by simp [zAll])
  have nTO := ne TO (by simp [zAll])
  have n1 := ne i1 (by simp [zAll])
  have n2 := ne i2 (by simp [zAll])
  have n3 := ne l1 (by simp [zAll])
  have n4 := ne l2 (by simp [zAll])
  obtain ⟨o1, a1, b1⟩ := Z.it1
  obtain ⟨o2, a2, b2⟩ := Z.it2
  obtain ⟨o3, a3, b3⟩ := Z.tp1
  obtain ⟨o4, a4, b4⟩ := Z.tp2
  refine ⟨k _ _ nTI Z.tin, ⟨o1, k _ _ n1 a1, b1⟩, ⟨o2, k _ _ n2 a2, b2⟩, ⟨o3, k _ _ n3 a3, b3⟩, ⟨o4, k _ _ n4 a4, b4⟩, ?_⟩
  rcases Z.own with ⟨hz, a, b, hTO⟩ | ⟨T, f, oT, hz, hT, r1, r2, r3, r4⟩
  · exact .inl ⟨k _ _ nz hz, a, b, k _ _ nTO hTO⟩
  · exact .inr ⟨T, f, oT, k _ _ nz hz, k _ _ r4 hT, r1, r2, r3, r4⟩
/-- the turn while the tuple of the turn ahead is still there -/
theorem heldNext {T : Addr} {f : Bool} {oT : Obj} {k1 k2 : Nat} {xs ys : Array Value} {x y : Value} {Q : Value → Shared → Prop} (D : ZipApart z TI TO i1 i2 l1 l2) (hz : IsZipHeld s.heap z TI TO T f) (hT : s.heap.get? T = some oT)
    (hTI : IsPair s.heap TI (.ref i1) (.ref i2)) (j1 : s.heap.IsTupleIter i1 l1 k1) (j2 : s.heap.IsTupleIter i2 l2 k2) (t1 : s.heap.IsTuple l1 xs) (t2 : s.heap.IsTuple l2 ys) (ex : xs[k1]? = some x) (ey : ys[k2]? = some y)
    (hQ : ∀ h', IsZipHeld h' z TI TO T true → h'.IsTupleIter i1 l1 (k1 + 1) → h'.IsTupleIter i2 l2 (k2 + 1) → IsPair h' s.heap.objs.size x y → h'.objs.size = s.heap.objs.size + 1 →
      (∀ c o, c ≠ z → c ≠ i1 → c ≠ i2 → s.heap.get? c = some o → h'.get? c = some o) → Q (.ref s.heap.objs.size) { s with heap := h' }) :
    wpAny (model prog w) A (Builtin.«zip.__next__» ⟨[.ref z], []⟩) (fun fin s' => ∃ v, fin = .done (.ret v) ∧ Q v s') E s := by
  show wpAny _ _ (field (.ref z) 2 >>= _) _ _ _
  refine wpAny_bind (wpAny_field hz rfl (x := .bool false) rfl ?_)
  show wpAny _ _ (field (.ref z) 3 >>= _) _ _ _
  refine wpAny_bind (wpAny_field hz rfl (x := .ref TI) rfl ?_)
  refine wpAny_bind (wpAny_seqItems hTI rfl ?_)
  show wpAny _ _ (Builtin.SmallTypes.ownedTupleIsFree (.ref z) >>= _) _ _ _
  refine wpAny_bind (wpAny_tupleHeld_zip hz hT fun hA zA sA => ?_)
  simp only [Bool.false_eq_true, if_false]
  refine wpAny_bind ?_
  rw [← Array.forIn_toList]
  simp only [List.forIn_cons, List.forIn_nil]
  refine wpAny_bind (wpAny_bind (wpAny_holding ?_))
  show wpAny _ _ (Builtin.SmallTypes.nextOf (.ref i1) >>= _) _ _ _
  refine wpAny_bind (nextOf_tuple_item (s := { s with heap := hA }) (j1.extBut sA.extBut D.i1z) (t1.extBut sA.extBut D.l1z) ex fun hB jB sB => wpAny_pure ?_)
  refine wpAny_pure ?_
  refine wpAny_bind (wpAny_bind (wpAny_holding ?_))
  show wpAny _ _ (Builtin.SmallTypes.nextOf (.ref i2) >>= _) _ _ _
  refine wpAny_bind (nextOf_tuple_item (s := { s with heap := hB }) ((j2.extBut sA.extBut D.i2z).extBut sB.extBut D.i12.symm) ((t2.extBut sA.extBut D.l2z).extBut sB.extBut D.l2i1) ey fun hC jC sC => wpAny_pure ?_)
  refine wpAny_pure (wpAny_pure ?_)
  show wpAny _ _ (newTuple [x, y] >>= _) _ _ _
  refine wpAny_bind (wpAny_newTuple ?_)
  have size : hC.objs.size = s.heap.objs.size := by rw [sC.1, sB.1, sA.1]
  have zC : IsZipHeld hC z TI TO T true := sC.extBut _ _ D.i2z.symm (sB.extBut _ _ D.i1z.symm zA)
  have old : ∀ c o, c ≠ z → c ≠ i1 → c ≠ i2 → s.heap.get? c = some o → hC.get? c = some o := fun c o c1 c2 c3 e => sC.extBut _ _ c3 (sB.extBut _ _ c2 (sA.extBut _ _ c1 e))
  have jC1 : hC.IsTupleIter i1 l1 (k1 + 1) := jB.extBut sC.extBut D.i12
  refine wpAny_pure ⟨_, rfl, ?_⟩
  show Q (.ref hC.objs.size) _
  have pair : IsPair (hC.push { cls := .type "tuple", data := .seq #[x, y] }) hC.objs.size x y := Heap.get?_push_size _ rfl
  have more : (hC.push { cls := .type "tuple", data := .seq #[x, y] }).objs.size = hC.objs.size + 1 := Heap.size_push ..
  rw [size] at pair more ⊢
  exact hQ _ (Heap.get?_push_of_some _ zC) (jC1.at fun o e => Heap.get?_push_of_some _ e) (jC.at fun o e => Heap.get?_push_of_some _ e) pair more fun c o c1 c2 c3 e => Heap.get?_push_of_some _ (old c o c1 c2 c3 e)
theorem heldEnd {T : Addr} {f : Bool} {oT : Obj} {k1 : Nat} {xs : Array Value} {Q : Fin → Shared → Prop} (hh : A.handled = none) (D : ZipApart z TI TO i1 i2 l1 l2) (hz : IsZipHeld s.heap z TI TO T f) (hT : s.heap.get? T = some oT)
    (hTI : IsPair s.heap TI (.ref i1) (.ref i2)) (j1 : s.heap.IsTupleIter i1 l1 k1) (t1 : s.heap.IsTuple l1 xs) (ex : xs[k1]? = none)
    (hE : ∀ h' e, (∀ c o, c ≠ z → c ≠ i1 → s.heap.get? c = some o → h'.get? c = some o) → (∃ o, h'.get? e = some o ∧ o.cls = .type "StopIteration") → E (.ref e) { s with heap := h' }) :
    wpAny (model prog w) A (Builtin.«zip.__next__» ⟨[.ref z], []⟩) Q E s := by
  show wpAny _ _ (field (.ref z) 2 >>= _) _ _ _
  refine wpAny_bind (wpAny_field hz rfl (x := .bool false) rfl ?_)
  show wpAny _ _ (field (.ref z) 3 >>= _) _ _ _
  refine wpAny_bind (wpAny_field hz rfl (x := .ref TI) rfl ?_)
  refine wpAny_bind (wpAny_seqItems hTI rfl ?_)
  show wpAny _ _ (Builtin.SmallTypes.ownedTupleIsFree (.ref z) >>= _) _ _ _
  refine wpAny_bind (wpAny_tupleHeld_zip hz hT fun hA zA sA => ?_)
  simp only [Bool.false_eq_true, if_false]
  refine wpAny_bind ?_
  rw [← Array.forIn_toList]
  simp only [List.forIn_cons, List.forIn_nil]
  refine wpAny_bind (wpAny_bind (wpAny_holding ?_))
  show wpAny _ _ (Builtin.SmallTypes.nextOf (.ref i1) >>= _) _ _ _
  refine wpAny_bind (nextOf_tuple_end (s := { s with heap := hA }) hh (j1.extBut sA.extBut D.i1z) (t1.extBut sA.extBut D.l1z) ex fun hB e sB he => ?_)
  exact hE hB e (fun c o c1 c2 x => sB _ _ c2 (sA.extBut _ _ c1 x)) he
/-- one turn -/
theorem zNext {S : Addr} {xs ys : Array Value} {i : Nat} {x y : Value} {Q : Option Value → Shared → Prop} (D : ZipApart z TI TO i1 i2 l1 l2) (Z : ZAt s.heap z TI TO i1 i2 l1 l2 S xs ys i) (hS : S < s.heap.objs.size) (ex : xs[i]? = some x) (ey : ys[i]? = some y)
    (hQ : ∀ h', ZAt h' z TI TO i1 i2 l1 l2 S xs ys (i + 1) → IsPair h' s.heap.objs.size x y → h'.objs.size = s.heap.objs.size + 1 → (∀ c o, c ≠ z → c ≠ TO → c ≠ i1 → c ≠ i2 → s.heap.get? c = some o → h'.get? c = some o) →
      Q (some (.ref s.heap.objs.size)) { s with heap := h' }) : wpAny (model prog w) A (pyNext (.ref z)) Q E s := by
  have lt : ∀ {c o}, s.heap.get? c = some o → s.heap.objs.size ≠ c := fun e => Nat.ne_of_gt (Heap.lt_size e)
  have n1 : s.heap.objs.size ≠ i1 := by obtain ⟨_, e, _⟩ := Z.it1; exact lt e
  have n2 : s.heap.objs.size ≠ i2 := by obtain ⟨_, e, _⟩ := Z.it2; exact lt e
  obtain ⟨o3, a3, b3⟩ := id Z.tp1
  obtain ⟨o4, a4, b4⟩ := id Z.tp2
  rcases Z.own with ⟨hz, a, b, hTO⟩ | ⟨T, f, oT, hz, hT, r1, r2, r3, r4⟩
  · refine pyNext_zipT_item D hz Z.tin hTO Z.it1 Z.it2 Z.tp1 Z.tp2 ex ey fun h' g1 g2 g3 g4 g5 g6 k => ?_
    refine hQ h' ⟨k _ _ D.TIz D.TITO D.TIi1 D.TIi2 Z.tin, g3, g4, ⟨o3, k _ _ D.l1z D.l1TO D.l1i1 D.l1i2 a3, b3⟩, ⟨o4, k _ _ D.l2z D.l2TO D.l2i1 D.l2i2 a4, b4⟩, .inr ⟨s.heap.objs.size, false, _, g1, g5, lt hz, n1, n2, Nat.ne_of_gt hS⟩⟩ g5 g6 k
  · have ty : s.TypeIs (.ref z) "zip" := ⟨_, hz, rfl⟩
    unfold pyNext
    refine wpAny_bind (wpAny_attempt (wpAny_callSpecial?_slot (name := Str.ofString "__next__") ty F.slot_zip_next (wpAny_call_entry F.slot_zip_next ty F.entry_zip_next
      (heldNext D hz hT Z.tin Z.it1 Z.it2 Z.tp1 Z.tp2 ex ey fun h' g1 g3 g4 g5 g6 k => wpAny_pure ?_) (F.args_zip_next_1 _))))
    exact hQ h' ⟨k _ _ D.TIz D.TIi1 D.TIi2 Z.tin, g3, g4, ⟨o3, k _ _ D.l1z D.l1i1 D.l1i2 a3, b3⟩, ⟨o4, k _ _ D.l2z D.l2i1 D.l2i2 a4, b4⟩, .inr ⟨T, true, oT, g1, k _ _ r1 r2 r3 hT, r1, r2, r3, r4⟩⟩ g5 g6 fun c o c1 _ c3 c4 e => k c o c1 c3 c4 e
theorem zEnd {S : Addr} {xs ys : Array Value} {i : Nat} {Q : Option Value → Shared → Prop} (hh : A.handled = none) (D : ZipApart z TI TO i1 i2 l1 l2) (Z : ZAt s.heap z TI TO i1 i2 l1 l2 S xs ys i) (ex : xs[i]? = none)
    (hQ : ∀ h', (∀ c o, c ≠ z → c ≠ TO → c ≠ i1 → c ≠ i2 → s.heap.get? c = some o → h'.get? c = some o) → Q none { s with heap := h' }) : wpAny (model prog w) A (pyNext (.ref z)) Q E s := by
  rcases Z.own with ⟨hz, a, b, hTO⟩ | ⟨T, f, oT, hz, hT, r1, r2, r3, r4⟩
  · exact pyNext_zipT_end hh D hz Z.tin hTO Z.it1 Z.it2 Z.tp1 Z.tp2 (.inl ex) hQ
  · have ty : s.TypeIs (.ref z) "zip" := ⟨_, hz, rfl⟩
    unfold pyNext
    refine wpAny_bind (wpAny_attempt (wpAny_callSpecial?_slot (name := Str.ofString "__next__") ty F.slot_zip_next (wpAny_call_entry F.slot_zip_next ty F.entry_zip_next
      (heldEnd hh D hz hT Z.tin Z.it1 Z.tp1 ex fun h' e k he => ?_) (F.args_zip_next_1 _))))
    obtain ⟨o, ho, hc⟩ := he
    refine wpAny_bind (wpAny_isInstance (T := "StopIteration") (b := true) ⟨o, ho, hc⟩ isSubtype_stop ?_)
    exact wpAny_pure (hQ _ fun c o c1 _ c3 _ e => k c o c1 c3 e)
/-- what is made: new pairs at rising places -/
structure Made (xs ys : Array Value) (lo : Addr) (h : Heap) (as : List Addr) : Prop where
  rise : as.Pairwise (· < ·)
  above : ∀ a ∈ as, lo < a
  pair : ∀ (j : Nat) (a : Addr), as[j]? = some a → ∃ x y, xs[j]? = some x ∧ ys[j]? = some y ∧ IsPair h a x y
theorem Made.keep {xs ys : Array Value} {lo : Addr} {h h' : Heap} {as : List Addr} (M : Made xs ys lo h as) (k : ∀ b o, lo < b → h.get? b = some o → h'.get? b = some o) : Made xs ys lo h' as :=
  ⟨M.rise, M.above, fun j a e => by
    obtain ⟨x, y, e1, e2, e3⟩ := M.pair j a e
    exact ⟨x, y, e1, e2, k _ _ (M.above a (List.mem_of_getElem? e)) e3⟩⟩
/-- all turns -/
theorem zLoop {S : Addr} {xs ys : Array Value} {n : Nat} {R : Result → Shared → Prop} (hh : A.handled = none) (D : ZipApart z TI TO i1 i2 l1 l2) (low : ∀ b ∈ zAll z TI TO i1 i2 l1 l2, b < S) (nx : xs.size = n) (ny : ys.size = n) (hn : n ≤ sizeLine) (res : Value) {h0 : Heap}
    (hR : ∀ h' acc c as, (∀ b o, b ≠ S → b ≠ z → b ≠ TO → b ≠ i1 → b ≠ i2 → h0.get? b = some o → h'.get? b = some o) → h'.get? S = some { cls := .type "list", dict := none, data := .seq acc c, slots := #[] } → as.length = n → Made xs ys S h' as →
      acc.toList = as.map Value.ref → R (.ok (.ret res)) { s with heap := h' }) :
    ∀ (k i : Nat) (h : Heap) (c : Nat) (acc : Array Value) (as : List Addr), n - i = k → i ≤ n → ZAt h z TI TO i1 i2 l1 l2 S xs ys i → (∀ b o, b ≠ S → b ≠ z → b ≠ TO → b ≠ i1 → b ≠ i2 → h0.get? b = some o → h.get? b = some o) →
      h.get? S = some { cls := .type "list", dict := none, data := .seq acc c, slots := #[] } → acc.toList = as.map Value.ref → as.length = i → Made xs ys S h as → codeAny (model prog w) A (.builtin "list.extend.loop" ⟨[.ref S, .ref z, res], []⟩) R { s with heap := h } := by
  have out : S ∉ zAll z TI TO i1 i2 l1 l2 := fun m => Nat.lt_irrefl _ (low S m)
  have sz : S ≠ z := Nat.ne_of_gt (low z (by simp [zAll]))
  have sTO : S ≠ TO := Nat.ne_of_gt (low TO (by simp [zAll]))
  have s1 : S ≠ i1 := Nat.ne_of_gt (low i1 (by simp [zAll]))
  have s2 : S ≠ i2 := Nat.ne_of_gt (low i2 (by simp [zAll]))
  have ab : ∀ b, S < b → b ≠ z ∧ b ≠ TO ∧ b ≠ i1 ∧ b ≠ i2 := fun b hb => by
    have g1 := low z (by simp [zAll])
    have g2 := low TO (by simp [zAll])
    have g3 := low i1 (by simp [zAll])
    have g4 := low i2 (by simp [zAll])
    exact ⟨Nat.ne_of_gt (Nat.lt_trans g1 hb), Nat.ne_of_gt (Nat.lt_trans g2 hb), Nat.ne_of_gt (Nat.lt_trans g3 hb), Nat.ne_of_gt (Nat.lt_trans g4 hb)⟩
  intro k
  induction k with
  | zero =>
    intro i h c acc as hk hi Z old hS ha hl M
    have e : i = n := by omega
    refine codeAny_builtin PySem.F.entry_extend_loop ?_
    rw [Around.under_plainId PySem.F.plain_extend_loop _]
    show wpAny _ A.in1 (pyNext (.ref z) >>= _) _ _ _
    refine wpAny_bind (zEnd (s := { s with heap := h }) (A := A.in1) hh D Z (Array.getElem?_eq_none (by omega)) fun h' k => ?_)
    refine wpAny_pure (hR h' acc c as (fun b o b0 b1 b2 b3 b4 q => k b o b1 b2 b3 b4 (old b o b0 b1 b2 b3 b4 q)) (k _ _ sz sTO s1 s2 hS) (by omega) (M.keep fun b o hb q => ?_) ha)
    obtain ⟨q1, q2, q3, q4⟩ := ab b hb
    exact k b o q1 q2 q3 q4 q
  | succ k ih =>
    intro i h c acc as hk hi Z old hS ha hl M
    have hlt : i < n := by omega
    have hx : i < xs.size := by omega
    have hy : i < ys.size := by omega
    have many : acc.size = i := by rw [← Array.length_toList, ha, List.length_map, hl]
    refine codeAny_builtin PySem.F.entry_extend_loop ?_
    rw [Around.under_plainId PySem.F.plain_extend_loop _]
    show wpAny _ A.in1 (pyNext (.ref z) >>= _) _ _ _
    refine wpAny_bind (zNext (s := { s with heap := h }) D Z (Heap.lt_size hS) (Array.getElem?_eq_getElem hx) (Array.getElem?_eq_getElem hy) fun h' Z' pr size k' => ?_)
    dsimp only at pr size k' ⊢
    have hS' := k' _ _ sz sTO s1 s2 hS
    have up : ∀ b o, b ≠ S → h'.get? b = some o → (h'.update S (Obj.mapSeq (·.push (Value.ref h.objs.size)))).get? b = some o := fun b o hb e => (Heap.get?_update_other _ _ (Ne.symm hb)).trans e
    have above : S < h.objs.size := Heap.lt_size hS
    show wpAny _ A.in1 (updateSeq S (·.push (Value.ref h.objs.size)) >>= _) _ _ _
    refine wpAny_bind (wpAny_updateSeq hS' rfl (wpAny_pure ⟨plainId_quiet PySem.F.plain_extend_loop _, ih (i + 1) _ _ (acc.push (Value.ref h.objs.size)) (as ++ [h.objs.size]) (by omega) hlt (Z'.keep out up)
      (fun b o b0 b1 b2 b3 b4 q => up b o b0 (k' b o b1 b2 b3 b4 (old b o b0 b1 b2 b3 b4 q))) (Heap.get?_update_self _ hS' rfl) (by rw [Array.toList_push, ha, List.map_append]; rfl) (by rw [List.length_append, hl]; rfl) ⟨?_, ?_, ?_⟩⟩) (by rw [many]; omega) ?_)
    · refine List.pairwise_append.mpr ⟨M.rise, List.pairwise_singleton _ _, fun a ha b hb => ?_⟩
      rw [List.mem_singleton.mp hb]
      obtain ⟨j, hj⟩ := List.getElem?_of_mem ha
      obtain ⟨_, _, _, _, q⟩ := M.pair j a hj
      exact Heap.lt_size q
    · intro a ha
      rcases List.mem_append.mp ha with ha | ha
      · exact M.above a ha
      · rw [List.mem_singleton.mp ha]; exact above
    · intro j a hj
      by_cases hj' : j < as.length
      · rw [List.getElem?_append_left hj'] at hj
        obtain ⟨x, y, e1, e2, e3⟩ := M.pair j a hj
        have q := M.above a (List.mem_of_getElem? hj)
        obtain ⟨q1, q2, q3, q4⟩ := ab a q
        exact ⟨x, y, e1, e2, up _ _ (Nat.ne_of_gt q) (k' _ _ q1 q2 q3 q4 e3)⟩
      · rw [List.getElem?_append_right (by omega)] at hj
        have ej : j = as.length := by
          have := (List.getElem?_eq_some_iff.mp hj).1
          simp at this
          omega
        subst ej
        rw [Nat.sub_self] at hj
        have ea : h.objs.size = a := Option.some.inj hj
        subst ea
        rw [hl]
        exact ⟨_, _, Array.getElem?_eq_getElem hx, Array.getElem?_eq_getElem hy, up _ _ (Nat.ne_of_gt above) pr⟩
    · show (acc.push (Value.ref h.objs.size)).size ≤ sizeLine + 1
      rw [Array.size_push, many]
      omega
end
end K15

set_option Elab.async false
set_option linter.all false
set_option maxRecDepth 100000
set_option maxHeartbeats 4000000
/-! sorted(zip(t, u)) of two tuples of texts. -/
namespace K15
open PySem PySem.Spec PyProof.Rows RZ
theorem lx_lt : ∀ {a b : List Nat}, lx a b ↔ a < b
  | [], [] => ⟨fun h => h.elim, fun h => (List.lt_irrefl _ h).elim⟩
  | [], _ :: _ => ⟨fun _ => List.nil_lt_cons _ _, fun _ => trivial⟩
  | _ :: _, [] => ⟨fun h => h.elim, fun h => (List.not_lt_nil _ h).elim⟩
  | a :: as, b :: bs => by
    rw [List.cons_lt_cons_iff]
    show (a < b ∨ (a = b ∧ lx as bs)) ↔ _
    rw [lx_lt (a := as) (b := bs)]
theorem perm_of_map {α β : Type} (f : α → β) {l1 l2 : List β} (p : l1.Perm l2) : ∀ L : List α, l2 = L.map f → ∃ L' : List α, L'.Perm L ∧ l1 = L'.map f := by
  induction p with
  | nil =>
    intro L e
    have : L = [] := List.map_eq_nil_iff.mp e.symm
    exact ⟨[], by rw [this], rfl⟩
  | cons x _ ih =>
    intro L e
    cases L with
    | nil => cases e
    | cons y L =>
      have e1 := List.cons.inj e
      obtain ⟨L', p', e'⟩ := ih L e1.2
      exact ⟨y :: L', p'.cons y, by rw [e', e1.1]; rfl⟩
  | swap x y l =>
    intro L e
    match L, e with
    | a :: b :: L, e =>
      have e1 := List.cons.inj e
      have e2 := List.cons.inj e1.2
      exact ⟨b :: a :: L, List.Perm.swap a b L, by rw [e1.1, e2.1, e2.2]; rfl⟩
  | trans _ _ ih1 ih2 =>
    intro L e
    obtain ⟨L2, p2, e2⟩ := ih2 L e
    obtain ⟨L1, p1, e1⟩ := ih1 L2 e2
    exact ⟨L1, p1.trans p2, e1⟩
theorem zip_no_len : typeLookup (.type "zip") "__len__" = pure none := am_miss_of_fast (by decide +kernel)
theorem zip_no_hint : typeLookup (.type "zip") "__length_hint__" = pure none := am_miss_of_fast (by decide +kernel)
section
variable {prog : Program} {w : World} {A : Around} {E : Value → Shared → Prop} {s : Shared} {z TI TO i1 i2 l1 l2 : Addr}
theorem zCollect {xs ys : Array Value} {n : Nat} {Q : List Value → Shared → Prop} (hh : A.handled = none) (D : ZipApart z TI TO i1 i2 l1 l2) (Z : ZAt s.heap z TI TO i1 i2 l1 l2 s.heap.objs.size xs ys 0)
    (fresh : IsZip s.heap z TI TO .none) (low : ∀ b ∈ zAll z TI TO i1 i2 l1 l2, b < s.heap.objs.size) (nx : xs.size = n) (ny : ys.size = n) (hn : n ≤ sizeLine)
    (hQ : ∀ h' as, (∀ b o, b ≠ z → b ≠ TO → b ≠ i1 → b ≠ i2 → s.heap.get? b = some o → h'.get? b = some o) → as.length = n → Made xs ys s.heap.objs.size h' as → s.heap.objs.size < h'.objs.size → Q (as.map Value.ref) { s with heap := h' }) :
    wpAny (model prog w) A (collect (.ref z)) Q E s := by
  have out : s.heap.objs.size ∉ zAll z TI TO i1 i2 l1 l2 := fun m => Nat.lt_irrefl _ (low _ m)
  have nz : s.heap.objs.size ≠ z := Nat.ne_of_gt (low z (by simp [zAll]))
  unfold collect
  refine wpAny_bind (wpAny_runValue (codeAny_builtin PySem.F.entry_proto_collect ?_))
  rw [Around.under_plainId PySem.F.plain_proto_collect _]
  show wpAny _ A.in1 (newList [] >>= fun l => again (.builtin "list.__iadd__" ⟨[l, .ref z], []⟩)) _ _ s
  refine wpAny_bind (wpAny_newObj_type ?_)
  refine wpAny_pure ⟨plainId_quiet PySem.F.plain_list_iadd _, codeAny_builtin PySem.F.entry_list_iadd ?_⟩
  rw [Around.under_plainId PySem.F.plain_list_iadd _]
  have zk : ∀ {b o}, s.heap.get? b = some o → (s.heap.push { cls := .type "list", data := .seq ([] : List Value).toArray }).get? b = some o := fun e => Heap.get?_push_of_some _ e
  have hT : ({ s with heap := s.heap.push { cls := .type "list", data := .seq ([] : List Value).toArray } } : Shared).TypeIs (.ref z) "zip" := ⟨_, zk fresh, rfl⟩
  have hz1 : IsZip (s.heap.push { cls := .type "list", data := .seq ([] : List Value).toArray }) z TI TO .none := zk fresh
  show wpAny _ A.in1 (Builtin.List.listExtendWith (.ref s.heap.objs.size) (.ref z) (.ref s.heap.objs.size)) _ _ _
  unfold Builtin.List.listExtendWith
  refine wpAny_bind (wpAny_typeOf hT ?_)
  have g1 : Builtin.List.listSameRef (.ref s.heap.objs.size) (.ref z) = false := by simp [Builtin.List.listSameRef, nz]
  have g2 : (Value.type "zip" == Value.type "list") = false := by decide
  have g3 : (Value.type "zip" == Value.type "tuple") = false := by decide
  simp only [g1, g2, g3, Bool.or_false, Bool.false_eq_true, if_false]
  refine wpAny_bind (wpAny_pyIter_zip hz1 ?_)
  refine wpAny_bind (wpAny_holding ?_)
  unfold Builtin.List.listLengthHint
  refine wpAny_bind (wpAny_specialOf hT zip_no_len ?_)
  show wpAny _ A.in1 (specialOf (Value.ref z) (Str.ofString "__length_hint__") >>= _) _ _ _
  refine wpAny_bind (wpAny_specialOf hT zip_no_hint ?_)
  refine wpAny_pure ?_
  show wpAny _ A.in1 (rule "list.extend.makes-room" >>= fun _ => Builtin.List.listTouch (.ref s.heap.objs.size) >>= fun _ =>
    again (.builtin "list.extend.loop" ⟨[.ref s.heap.objs.size, .ref z, .ref s.heap.objs.size], []⟩)) _ _ _
  refine wpAny_bind (wpAny_rule ?_)
  have S1 : (s.heap.push { cls := .type "list", data := .seq ([] : List Value).toArray }).get? s.heap.objs.size = some { cls := .type "list", data := .seq ([] : List Value).toArray } := Heap.get?_push_size _ rfl
  refine wpAny_bind ?_
  show wpAny _ A.in1 (updateSeq s.heap.objs.size (·.push .none) >>= fun _ => updateSeq s.heap.objs.size (·.pop)) _ _ _
  refine wpAny_bind (wpAny_updateSeq S1 rfl ?_)
  have S2 := Heap.get?_update_self (Obj.mapSeq (·.push Value.none)) S1 rfl
  refine wpAny_updateSeq S2 rfl ?_
  have S3 := Heap.get?_update_self (Obj.mapSeq (·.pop)) S2 rfl
  have oth : ∀ b o, b ≠ s.heap.objs.size → s.heap.get? b = some o →
      (((s.heap.push { cls := .type "list", data := .seq ([] : List Value).toArray }).update s.heap.objs.size (Obj.mapSeq (·.push Value.none))).update s.heap.objs.size (Obj.mapSeq (·.pop))).get? b = some o :=
    fun b o hb e => (Heap.get?_update_other _ _ (Ne.symm hb)).trans ((Heap.get?_update_other _ _ (Ne.symm hb)).trans (zk e))
  refine wpAny_pure ⟨plainId_quiet PySem.F.plain_extend_loop _, zLoop hh D low nx ny hn _ (fun h' acc c as k hS hl M ha => ?_) n 0 _ _ _ [] rfl (Nat.zero_le _) (Z.keep out oth) (fun b o b0 _ _ _ _ e => e) S3 rfl rfl
    ⟨List.Pairwise.nil, fun _ m => (nomatch m), fun j a e => (nomatch e)⟩⟩
  show wpAny _ A (load s.heap.objs.size >>= _) _ _ _
  refine wpAny_bind (wpAny_load hS ?_)
  refine wpAny_pure ?_
  show Q acc.toList _
  rw [ha]
  exact hQ h' as (fun b o b1 b2 b3 b4 e => k b o (Nat.ne_of_lt (Heap.lt_size e)) b1 b2 b3 b4 (oth b o (Nat.ne_of_lt (Heap.lt_size e)) e)) hl M (Heap.lt_size hS)
theorem strs_get : ∀ {us : List Value} {ys : List Str}, StrsAre us ys → ∀ (j : Nat) (v : Value), us[j]? = some v → ∃ y t, ys[j]? = some y ∧ v = .str y t
  | _, _, .nil, j, v, h => by cases h
  | _, _, .cons y t r, 0, v, h => ⟨y, t, rfl, (Option.some.inj h).symm⟩
  | _, _, .cons y t r, j + 1, v, h => strs_get r j v h
/-- a pair's key -/
def keyAt (nm wd : List Str) (i : Nat) : List (Int ⊕ List Nat) := [.inr (nm.getD i Str.empty).cps.toList, .inr (wd.getD i Str.empty).cps.toList]
theorem made_key {xs ys : Array Value} {nm wd : List Str} (hx : StrsAre xs.toList nm) (hy : StrsAre ys.toList wd) {lo : Addr} {h : Heap} {as : List Addr} (M : Made xs ys lo h as) {j : Nat} {a : Addr} (e : as[j]? = some a) :
    G.tupKeyC h (fun _ => true) (.ref a) = some (keyAt nm wd j) ∧ ∃ x t y u, nm[j]? = some x ∧ wd[j]? = some y ∧ IsPair h a (.str x t) (.str y u) ∧ xs[j]? = some (.str x t) := by
  obtain ⟨vx, vy, ex, ey, pr⟩ := M.pair j a e
  obtain ⟨x, t, e1, rfl⟩ := strs_get hx j vx (by simpa using ex)
  obtain ⟨y, u, e2, rfl⟩ := strs_get hy j vy (by simpa using ey)
  refine ⟨?_, x, t, y, u, e1, e2, pr, ex⟩
  unfold G.tupKeyC
  have pr' : h.get? a = some { cls := .type "tuple", data := .seq #[Value.str x t, Value.str y u] } := pr
  have o : G.isTupObj h (.ref a) = true := by
    simp [G.isTupObj, pr']
  rw [if_pos o]
  unfold keyAt
  rw [List.getD_eq_getElem?_getD, List.getD_eq_getElem?_getD, e1, e2]
  simp [tupKey, pr', tupItems]
theorem tups_of {h : Heap} : ∀ (as : List Addr) (fs : List Value), as.length = fs.length → (∀ (j : Nat) a, as[j]? = some a → ∃ x t v, fs[j]? = some (.str x t) ∧ IsPair h a (.str x t) v) → TupsOf h (fun _ => true) (as.map Value.ref) fs
  | [], [], _, _ => .nil
  | [], _ :: _, e, _ => by cases e
  | _ :: _, [], e, _ => by cases e
  | a :: as, f :: fs, e, H => by
    obtain ⟨x, t, v, e1, pr⟩ := H 0 a rfl
    have e1' : f = .str x t := Option.some.inj e1
    refine .cons ⟨a, _, _, _, rfl, pr, rfl, rfl, by rw [e1']; rfl, fun z => (nomatch z), fun _ => ⟨x, t, e1'⟩⟩ (tups_of as fs (Nat.succ.inj e) fun j a' ea => H (j + 1) a' ea)
/-- sorted of such pairs: the numbers o of the pairs in their order -/
theorem zSorted {xs ys : Array Value} {n : Nat} {nm wd : List Str} {Q : Value → Shared → Prop} (hh : A.handled = none) (D : ZipApart z TI TO i1 i2 l1 l2) (Z : ZAt s.heap z TI TO i1 i2 l1 l2 s.heap.objs.size xs ys 0)
    (fresh : IsZip s.heap z TI TO .none) (low : ∀ b ∈ zAll z TI TO i1 i2 l1 l2, b < s.heap.objs.size) (nx : xs.size = n) (ny : ys.size = n) (hn : n ≤ 1000) (hx : StrsAre xs.toList nm) (hy : StrsAre ys.toList wd)
    (hQ : ∀ (h' : Heap) (p : Addr) (e : Nat) (as : List Addr) (o : List Nat), (∀ b u, b ≠ z → b ≠ TO → b ≠ i1 → b ≠ i2 → s.heap.get? b = some u → h'.get? b = some u) → as.length = n → Made xs ys s.heap.objs.size h' as → s.heap.objs.size ≤ p → p ∉ as →
      o.Perm (List.range n) → o.Pairwise (fun i j => lexLt itemOrd (keyAt nm wd j) (keyAt nm wd i) = false) → h'.get? p = some (seqObj "list" (o.map fun i => Value.ref (as.getD i 0)).toArray e) → Q (.ref p) { s with heap := h' }) :
    wpAny (model prog w) A (call (.builtin "sorted") [.ref z]) Q E s := by
  have hn' : n ≤ sizeLine := Nat.le_trans hn (by decide)
  refine Calls.call_function_entry kind_sorted plain_sorted entry_sorted (args_sorted1 _) ?_
  unfold Builtin.«sorted»
  refine wpAny_bind (m := checkCount "sorted" 1 1 _) (wpAny_pure ?_)
  refine wpAny_bind (zCollect (A := A.in1) hh D Z fresh low nx ny hn' fun h1 as k hl M big => ?_)
  refine wpAny_bind (wpAny_newList ?_)
  have lenv : (as.map Value.ref).length = n := by rw [List.length_map, hl]
  have hL : (h1.push (seqObj "list" (as.map Value.ref).toArray 0)).get? h1.objs.size = some (seqObj "list" (as.map Value.ref).toArray 0) := Heap.get?_push_size _ rfl
  have M1 : Made xs ys s.heap.objs.size (h1.push (seqObj "list" (as.map Value.ref).toArray 0)) as := M.keep fun b u _ e => Heap.get?_push_of_some _ e
  show wpAny _ _ _ _ _ { s with heap := h1.push (seqObj "list" (as.map Value.ref).toArray 0) }
  have tk : ∀ v, v ∈ as.map Value.ref → ∃ l, G.tupKeyC (h1.push (seqObj "list" (as.map Value.ref).toArray 0)) (fun _ => true) v = some l := fun v hv => by
    obtain ⟨a, ha, rfl⟩ := List.mem_map.mp hv
    obtain ⟨j, hj⟩ := List.getElem?_of_mem ha
    exact ⟨_, (made_key hx hy M1 hj).1⟩
  have tt : TupsOf (h1.push (seqObj "list" (as.map Value.ref).toArray 0)) (fun _ => true) (as.map Value.ref) xs.toList := tups_of as xs.toList (by rw [hl, Array.length_toList, nx]) fun j a e => by
    obtain ⟨_, x, t, y, u, _, _, pr, ex⟩ := made_key hx hy M1 e
    exact ⟨x, t, .str y u, by simpa using ex, pr⟩
  refine wpAny_bind (wpAny_holding (wpAny_call_entry slot_list_sort ⟨_, hL, rfl⟩ entry_list_sort (G.list_sort_tups (s := { s with heap := h1.push (seqObj "list" (as.map Value.ref).toArray 0) }) hL tt tk (by rw [lenv]; exact hn') fun st' hp hs _ => ⟨_, rfl, ?_⟩) (args_list_sort _)))
  refine wpAny_pure ⟨_, rfl, ?_⟩
  -- the sorted list by numbers
  have getv : ∀ i, i < n → ∃ a, as[i]? = some a ∧ as.getD i 0 = a := fun i hi => by
    have : i < as.length := by omega
    exact ⟨as[i], List.getElem?_eq_getElem this, by rw [List.getD_eq_getElem?_getD, List.getElem?_eq_getElem this]; rfl⟩
  have em : as.map Value.ref = (List.range n).map fun i => Value.ref (as.getD i 0) := by
    apply List.ext_getElem?
    intro i
    rw [List.getElem?_map, List.getElem?_map]
    by_cases hi : i < n
    · obtain ⟨a, e1, e2⟩ := getv i hi
      rw [e1, List.getElem?_range hi]
      show some (Value.ref a) = some (Value.ref (as.getD i 0))
      rw [e2]
    · rw [List.getElem?_eq_none (by omega), List.getElem?_eq_none (by rw [List.length_range]; omega)]
      rfl
  have ep : (pairsOf (as.map Value.ref)).toList = (List.range n).map fun i => ((Value.ref (as.getD i 0), Value.ref (as.getD i 0)) : Keyed) := by
    unfold pairsOf
    rw [Array.toList_zip]
    show (as.map Value.ref).zip (as.map Value.ref) = _
    rw [em, List.zip_map']
  obtain ⟨o, po, eo⟩ := perm_of_map (fun i => ((Value.ref (as.getD i 0), Value.ref (as.getD i 0)) : Keyed)) (Array.perm_iff_toList_perm.mp hp) (List.range n) ep
  have olt : ∀ i ∈ o, i < n := fun i hi => List.mem_range.mp (po.mem_iff.mp hi)
  have eout : (arrOf st').map (·.2) = (o.map fun i => Value.ref (as.getD i 0)).toArray := by
    apply Array.toList_inj.mp
    rw [Array.toList_map, eo, List.map_map]
    rfl
  have okey : ∀ (i : Nat) (m : Nat), o[i]? = some m → KK (G.tupKindC (h1.push (seqObj "list" (as.map Value.ref).toArray 0)) fun _ => true) (arrOf st') i = keyAt nm wd m := fun i m e => by
    have e1 : (arrOf st')[i]? = some ((Value.ref (as.getD m 0), Value.ref (as.getD m 0)) : Keyed) := by
      rw [← Array.getElem?_toList, eo, List.getElem?_map, e]
      rfl
    obtain ⟨a, e2, e3⟩ := getv m (olt m (List.mem_of_getElem? e))
    unfold KK
    rw [e1]
    show ((G.tupKeyC _ _ (Value.ref (as.getD m 0))).getD _) = _
    rw [e3, (made_key hx hy M1 e2).1]
    rfl
  have size : (pairsOf (as.map Value.ref)).size = n := by rw [pairsOf_size, lenv]
  have ol : o.length = n := by rw [po.length_eq, List.length_range]
  obtain ⟨e, he⟩ := sortedHeap_at (out := (arrOf st').map (·.2)) hL
  have lt1 : ∀ {b u}, h1.get? b = some u → b ≠ h1.objs.size ∧ b < (h1.push (seqObj "list" (as.map Value.ref).toArray 0)).objs.size := fun e => ⟨Nat.ne_of_lt (Heap.lt_size e), by rw [size_push']; exact Nat.lt_succ_of_lt (Heap.lt_size e)⟩
  have kp : ∀ {b u}, h1.get? b = some u → (sortedHeap (h1.push (seqObj "list" (as.map Value.ref).toArray 0)) h1.objs.size (as.map Value.ref) ((arrOf st').map (·.2))).get? b = some u := fun e => by
    obtain ⟨g1, g2⟩ := lt1 e
    rw [sortedHeap_old g1 g2]
    exact Heap.get?_push_of_some _ e
  refine hQ _ h1.objs.size e as o (fun b u b1 b2 b3 b4 g => kp (k b u b1 b2 b3 b4 g)) hl (M.keep fun b u _ g => kp g) (Nat.le_of_lt big) (fun m => ?_) po ?_ (by rw [← eout]; exact he)
  · obtain ⟨j, hj⟩ := List.getElem?_of_mem m
    obtain ⟨_, _, _, _, pr⟩ := M.pair j _ hj
    exact Nat.lt_irrefl _ (Heap.lt_size pr)
  · refine List.pairwise_iff_getElem.mpr fun i j hi hj hij => ?_
    have q := hs i j (Nat.le_of_lt hij) (by rw [size]; omega)
    rw [okey i _ (List.getElem?_eq_getElem hi), okey j _ (List.getElem?_eq_getElem hj)] at q
    exact q
end
end K15

set_option Elab.async false
set_option linter.all false
set_option maxRecDepth 100000
set_option maxHeartbeats 4000000
/-! sorted(zip(t, u)) as a rule of the layer. -/
namespace K15
open PySem PySem.Spec PyProof.Rows L2 RZ
/-- the view with the new list at p and the new pairs at as -/
def pairHp (H : Hp) (p : Addr) (L : List V) (as : List Addr) (f : Nat → List V) : Hp := fun b => if b = p then some (.lst L) else if b ∈ as then some (.tup (f (as.idxOf b))) else H b
def rSZ (K : PySem.W.Frag) : R2 := fun x y H Q => ∃ (l1 l2 : Addr) (nm wd : List Str) (n : Nat), x = .ref l1 ∧ y = .ref l2 ∧ SqT K H l1 (nm.map V.str) ∧ SqT K H l2 (wd.map V.str) ∧ nm.length = n ∧ wd.length = n ∧ n ≤ 1000 ∧
  ∀ (H' : Hp) (p : Addr) (as : List Addr) (o : List Nat), Same H H' → H p = none → as.length = n → o.Perm (List.range n) → o.Pairwise (fun i j => lexLt itemOrd (keyAt nm wd j) (keyAt nm wd i) = false) →
    H' p = some (.lst (o.map fun i => V.ref (as.getD i 0))) → (∀ i, i < n → H' (as.getD i 0) = some (.tup [V.str (nm.getD i Str.empty), V.str (wd.getD i Str.empty)])) → Q (.ref p) H'
theorem vals_map {α : Type} (f : α → V) (g : α → Value) : ∀ l : List α, (∀ x ∈ l, RelV (f x) (g x)) → Vals (l.map f) (l.map g)
  | [], _ => .nil
  | x :: l, h => .cons (h x List.mem_cons_self) (vals_map f g l fun y hy => h y (List.mem_cons_of_mem _ hy))
section
variable {X : Cx} {pins : List (Addr × Obj)} {σ : L2.St} {H : Hp} {s : Shared}
theorem szInv {h' : Heap} {p : Addr} {as : List Addr} {L : List V} {Lv : List Value} {e n : Nat} {nm wd : List Str} {xs ys : Array Value} {tk : Nat} (I : Inv X pins σ H s) (k : ∀ b u, s.heap.get? b = some u → h'.get? b = some u) (hp : s.heap.objs.size ≤ p) (pn : p ∉ as)
    (M : Made xs ys s.heap.objs.size h' as) (hl : as.length = n) (hx : StrsAre xs.toList nm) (hy : StrsAre ys.toList wd) (rel : Vals L Lv) (fits : L.length ≤ sizeLine) (at_p : h'.get? p = some (seqObj "list" Lv.toArray e)) :
    Inv X pins σ (pairHp H p L as fun i => [V.str (nm.getD i Str.empty), V.str (wd.getD i Str.empty)]) { s with heap := h', toks := tk } := by
  have newp : H p = none := I.hok.fresh hp
  have newa : ∀ a ∈ as, H a = none := fun a ha => I.hok.fresh (Nat.le_of_lt (M.above a ha))
  have off : ∀ b, b ≠ p → b ∉ as → pairHp H p L as (fun i => [V.str (nm.getD i Str.empty), V.str (wd.getD i Str.empty)]) b = H b := fun b h1 h2 => by
    unfold pairHp
    rw [if_neg h1, if_neg h2]
  have kp : ∀ b u, H b = some u → pairHp H p L as (fun i => [V.str (nm.getD i Str.empty), V.str (wd.getD i Str.empty)]) b = some u := fun b u q => by
    rw [off b (fun z => by rw [z, newp] at q; cases q) (fun z => by rw [newa b z] at q; cases q)]
    exact q
  have nd : as.Nodup := M.rise.imp fun h => Nat.ne_of_lt h
  refine I.un (t' := tk) ⟨fun b o q _ _ _ => k b o q, fun b o q _ _ _ => ⟨o.slots, k b o q⟩, fun b o q z _ => ?_, fun b o q _ => ⟨o, k b o q⟩, fun b xs q => kp b _ q, fun b o u q => kp b _ q, fun b ps q => ⟨#[], by rw [kp b _ q]; simp⟩⟩ fun b u q => ?_
  · have lt := Heap.lt_size q
    rw [off b (fun z => by rw [z] at lt; exact absurd lt (Nat.not_lt.mpr hp)) (fun z => absurd lt (Nat.not_lt.mpr (Nat.le_of_lt (M.above b z))))]
    exact z
  · by_cases hb : b = p
    · subst hb
      unfold pairHp at q
      rw [if_pos rfl] at q
      cases q
      exact ⟨fits, Lv, e, rel, at_p⟩
    · by_cases ha : b ∈ as
      · unfold pairHp at q
        rw [if_neg hb, if_pos ha] at q
        cases q
        have hj : as[as.idxOf b]? = some b := by
          rw [List.getElem?_eq_getElem (List.idxOf_lt_length_of_mem ha), List.getElem_idxOf]
        obtain ⟨_, x, t, y, u, e1, e2, pr, _⟩ := made_key hx hy M hj
        refine ⟨by show 2 ≤ sizeLine; decide, [.str x t, .str y u], .cons ⟨t, ?_⟩ (.cons ⟨u, ?_⟩ .nil), ⟨_, pr, rfl, _, rfl⟩⟩
        · rw [List.getD_eq_getElem?_getD, e1]
          rfl
        · rw [List.getD_eq_getElem?_getD, e2]
          rfl
      · rw [off b hb ha] at q
        exact (I.hok b u q).stay (fun d v _ y => k d v y) (fun d y => kp d _ y) fun d xs y => kp d _ y
theorem strs_vals : ∀ {l : List Str} {us : List Value}, Vals (l.map V.str) us → StrsAre us l
  | [], _, .nil => .nil
  | _ :: _, _, .cons ⟨t, e⟩ r => by
    subst e
    exact .cons _ t (strs_vals r)
theorem lt5 (n k : Nat) (h : k < 5) : n + k < n + 5 := by omega
theorem nne {a b : Nat} (h : a < b ∨ b < a) : a ≠ b := by omega
theorem apart_all (n : Nat) {l1 l2 : Nat} (h1 : l1 < n) (h2 : l2 < n) : ZipApart (n + 4) (n + 2) (n + 3) n (n + 1) l1 l2 := by
  constructor
  all_goals exact nne (by omega)
/-- sorted(zip(a, b)) of two tuples of texts -/
theorem pe_sortedZip {a b : Expr} {ta tb : TE} {p p2 q pos : Pos} (hc : X.calm = true) (ha : PE X a ta) (hb : PE X b tb) (g1 : Gl X "sorted") (m1 : X.mg "sorted" = none) (g2 : Gl X "zip") (m2 : X.mg "zip" = none)
    (he : starEach [.Call (.Name "zip" p2) [a, b] [] q] X.env = (false, eval (.Call (.Name "zip" p2) [a, b] [] q) X.env) :: starEach [] X.env := by rfl)
    (he2 : starEach [a, b] X.env = (false, eval a X.env) :: starEach [b] X.env := by rfl) (hpl : (backTo q (starEach [b] X.env)).any (·.1) = false := by rfl) (he3 : starEach [b] X.env = (false, eval b X.env) :: starEach [] X.env := by rfl) :
    PE X (.Call (.Name "sorted" p) [.Call (.Name "zip" p2) [a, b] [] q] [] pos) (tOp (rSZ X.K) ta tb) := by
  refine ⟨fun pins s σ H Q I h => ?_⟩
  refine wpAny_Call_Name_kw (ld_blt I g1 m1 (u := .builtin "sorted") (by decide +kernel) ?_)
  refine PyProof.Rows.callWith_builtin1 ?_ he rfl
  rw [he]
  show wpAny _ _ (spliced ((false, eval (.Call (.Name "zip" p2) [a, b] [] q) X.env) :: backTo pos (starEach [] X.env))) _ _ s
  refine Calls.spliced_cons ?_
  refine wpAny_Call_Name_kw (ld_blt I g2 m2 (u := .type "zip") (by decide +kernel) ?_)
  refine PyProof.Rows.callWith_type1 (thn ((pa_cons ha (pa_cons hb pa_nil he3) he2).run q pins s σ H (fun vs H2 => match vs with
    | [x, y] => rSZ X.K x y H2 Q
    | _ => False) I h) fun us s1 ⟨vs, H1, I1, r1, q1⟩ => ?_) he2 hpl
  match vs, q1 with
  | [x, y], q1 =>
    obtain ⟨l1, l2, nm, wd, n, rfl, rfl, t1, t2, e1, e2, small, q1⟩ := q1
    obtain ⟨u1, u2, rfl, ru1, ru2⟩ := vals2 r1
    obtain rfl : u1 = Value.ref l1 := ru1
    obtain rfl : u2 = Value.ref l2 := ru2
    obtain ⟨its1, v1, p1, _⟩ := I1.tuple t1
    obtain ⟨its2, v2, p2', _⟩ := I1.tuple t2
    have lt1 : l1 < s1.heap.objs.size := p1.lt
    have lt2 : l2 < s1.heap.objs.size := p2'.lt
    refine call_zipT (xs := its1.toArray) (ys := its2.toArray) p1 p2' fun h' hz hTI hTO j1 j2 size k => ?_
    refine Calls.spliced_nil ?_
    show wpAny _ _ (call (.builtin "sorted") [.ref (s1.heap.objs.size + 4)]) _ _ _
    have low : ∀ b ∈ zAll (s1.heap.objs.size + 4) (s1.heap.objs.size + 2) (s1.heap.objs.size + 3) s1.heap.objs.size (s1.heap.objs.size + 1) l1 l2, b < h'.objs.size := fun b hb => by
      rw [size]
      simp only [zAll, List.mem_cons, List.not_mem_nil, or_false] at hb
      have g1 : (l1 : Nat) < s1.heap.objs.size := lt1
      have g2 : (l2 : Nat) < s1.heap.objs.size := lt2
      show (b : Nat) < s1.heap.objs.size + 5
      rcases hb with e | e | e | e | e | e | e
      · rw [e]; exact lt5 _ 4 (by decide)
      · rw [e]; exact lt5 _ 2 (by decide)
      · rw [e]; exact lt5 _ 3 (by decide)
      · rw [e]; exact lt5 _ 0 (by decide)
      · rw [e]; exact lt5 _ 1 (by decide)
      · rw [e]; exact Nat.lt_of_lt_of_le g1 (Nat.le_add_right _ _)
      · rw [e]; exact Nat.lt_of_lt_of_le g2 (Nat.le_add_right _ _)
    have tp : ∀ {l : Addr} {its : Array Value}, IsTup s1.heap l its → h'.IsTuple l its := fun {l its} ⟨o, ho, hc, hd⟩ => ⟨o, k _ _ ho, hc, hd⟩
    have Z : ZAt h' (s1.heap.objs.size + 4) (s1.heap.objs.size + 2) (s1.heap.objs.size + 3) s1.heap.objs.size (s1.heap.objs.size + 1) l1 l2 h'.objs.size its1.toArray its2.toArray 0 :=
      ⟨hTI, j1, j2, tp p1, tp p2', .inl ⟨hz, _, _, hTO⟩⟩
    have nx : its1.toArray.size = n := by rw [List.size_toArray, ← v1.length, List.length_map, e1]
    have ny : its2.toArray.size = n := by rw [List.size_toArray, ← v2.length, List.length_map, e2]
    have hx : StrsAre its1.toArray.toList nm := strs_vals v1
    have hy : StrsAre its2.toArray.toList wd := strs_vals v2
    refine zSorted (s := { s1 with heap := h' }) (I1.ok.hd hc) (apart_all _ lt1 lt2) Z hz low nx ny small hx hy fun h2 pp e as o k2 hl M big pn po pw at_p => ?_
    have kk : ∀ b u, s1.heap.get? b = some u → h2.get? b = some u := fun b u g => by
      have lt := Heap.lt_size g
      have lt' : (b : Nat) < s1.heap.objs.size := lt
      exact k2 b u (Nat.ne_of_lt (Nat.lt_of_lt_of_le lt' (Nat.le_add_right _ _))) (Nat.ne_of_lt (Nat.lt_of_lt_of_le lt' (Nat.le_add_right _ _))) (Nat.ne_of_lt lt') (Nat.ne_of_lt (Nat.lt_of_lt_of_le lt' (Nat.le_add_right _ _))) (k b u g)
    have hp' : s1.heap.objs.size ≤ pp := Nat.le_trans (by rw [show h'.objs.size = s1.heap.objs.size + 5 from size]; exact Nat.le_add_right _ _) big
    have M' : Made its1.toArray its2.toArray s1.heap.objs.size h2 as := ⟨M.rise, fun a ha => Nat.lt_of_le_of_lt (by rw [show h'.objs.size = s1.heap.objs.size + 5 from size]; exact Nat.le_add_right _ _) (M.above a ha), M.pair⟩
    have fits : (o.map fun i => V.ref (as.getD i 0)).length ≤ sizeLine := by rw [List.length_map, po.length_eq, List.length_range]; exact Nat.le_trans small (by decide)
    have J := szInv (tk := s1.toks) (nm := nm) (wd := wd) I1 kk hp' pn M' hl hx hy (vals_map (fun i => V.ref (as.getD i 0)) (fun i => Value.ref (as.getD i 0)) o fun _ _ => rfl) fits at_p
    have nd : as.Nodup := M.rise.imp fun h => Nat.ne_of_lt h
    have newp : H1 pp = none := I1.hok.fresh hp'
    have newa : ∀ a ∈ as, H1 a = none := fun a ha => I1.hok.fresh (Nat.le_of_lt (M'.above a ha))
    refine ⟨.ref pp, _, J, rfl, q1 _ pp as o (fun b u g => ?_) newp hl po pw ?_ fun i hi => ?_⟩
    · unfold pairHp
      rw [if_neg (ne_of_none g newp), if_neg (fun z => by rw [newa b z] at g; cases g)]
      exact g
    · unfold pairHp
      rw [if_pos rfl]
    · have hi' : i < as.length := by rw [hl]; exact hi
      have eg : as.getD i 0 = as[i] := by rw [List.getD_eq_getElem?_getD, List.getElem?_eq_getElem hi']; rfl
      have mem : as[i] ∈ as := List.getElem_mem hi'
      unfold pairHp
      rw [eg, if_neg (show ¬ as[i] = pp from fun z => pn (by rw [← z]; exact mem)), if_pos mem, nd.idxOf_getElem i hi']
end
end K15

set_option Elab.async false
set_option linter.all false
set_option maxRecDepth 100000
set_option maxHeartbeats 4000000
/-! What every walk uses: the top's facts by names, calls of the program's own defs, texts and names as values. -/
namespace K15
open PySem PySem.Spec PyProof.Rows L2
/-- the facts of the top, as the walks take them -/
structure Tx (K : PySem.W.Frag) (mg : Str → Option Value) : Prop where
  says : SaysK K
  base : ∃ h : Heap, K.In h ∧ h.Ns mainGlobals mg
section
variable {K : PySem.W.Frag} {mg : Str → Option Value}
noncomputable def Tx.h (T : Tx K mg) : Heap := T.base.choose
theorem Tx.inB (T : Tx K mg) : K.In T.h := T.base.choose_spec.1
theorem Tx.nsB (T : Tx K mg) : T.h.Ns mainGlobals mg := T.base.choose_spec.2
theorem Tx.sd (T : Tx K mg) : He.SaysD fa fn K := congrArg Prod.fst T.says
theorem Tx.ex (T : Tx K mg) : exB K = true := congrArg Prod.snd T.says
theorem Tx.g_is_integer (T : Tx K mg) : mg "is_integer" = some (.ref (He.ga K "is_integer")) := He.glo_ok T.inB T.nsB (T.sd.fact 0 (f := .glo "is_integer") rfl)
theorem Tx.g_is_within (T : Tx K mg) : mg "is_within" = some (.ref (He.ga K "is_within")) := He.glo_ok T.inB T.nsB (T.sd.fact 1 (f := .glo "is_within") rfl)
theorem Tx.g_is_name (T : Tx K mg) : mg "is_name" = some (.ref (He.ga K "is_name")) := He.glo_ok T.inB T.nsB (T.sd.fact 2 (f := .glo "is_name") rfl)
theorem Tx.g_need_number (T : Tx K mg) : mg "need_number" = some (.ref (He.ga K "need_number")) := He.glo_ok T.inB T.nsB (T.sd.fact 3 (f := .glo "need_number") rfl)
theorem Tx.g_is_apart (T : Tx K mg) : mg "is_apart" = some (.ref (He.ga K "is_apart")) := He.glo_ok T.inB T.nsB (T.sd.fact 4 (f := .glo "is_apart") rfl)
theorem Tx.g_Tongue (T : Tx K mg) : mg "Tongue" = some (.ref (He.ga K "Tongue")) := He.glo_ok T.inB T.nsB (T.sd.fact 5 (f := .glo "Tongue") rfl)
theorem Tx.g_is_short (T : Tx K mg) : mg "is_short" = some (.ref (He.ga K "is_short")) := He.glo_ok T.inB T.nsB (T.sd.fact 6 (f := .glo "is_short") rfl)
theorem Tx.g_need_tongue (T : Tx K mg) : mg "need_tongue" = some (.ref (He.ga K "need_tongue")) := He.glo_ok T.inB T.nsB (T.sd.fact 7 (f := .glo "need_tongue") rfl)
theorem Tx.g_many_next (T : Tx K mg) : mg "many_next" = some (.ref (He.ga K "many_next")) := He.glo_ok T.inB T.nsB (T.sd.fact 8 (f := .glo "many_next") rfl)
theorem Tx.g_table_of (T : Tx K mg) : mg "table_of" = some (.ref (He.ga K "table_of")) := He.glo_ok T.inB T.nsB (T.sd.fact 9 (f := .glo "table_of") rfl)
theorem Tx.g_choices_of (T : Tx K mg) : mg "choices_of" = some (.ref (He.ga K "choices_of")) := He.glo_ok T.inB T.nsB (T.sd.fact 10 (f := .glo "choices_of") rfl)
theorem Tx.g_all_of (T : Tx K mg) : mg "all_of" = some (.ref (He.ga K "all_of")) := He.glo_ok T.inB T.nsB (T.sd.fact 11 (f := .glo "all_of") rfl)
theorem Tx.g_row_at (T : Tx K mg) : mg "row_at" = some (.ref (He.ga K "row_at")) := He.glo_ok T.inB T.nsB (T.sd.fact 12 (f := .glo "row_at") rfl)
theorem Tx.g_how_many (T : Tx K mg) : mg "how_many" = some (.ref (He.ga K "how_many")) := He.glo_ok T.inB T.nsB (T.sd.fact 13 (f := .glo "how_many") rfl)
theorem Tx.g_programs_of (T : Tx K mg) : mg "programs_of" = some (.ref (He.ga K "programs_of")) := He.glo_ok T.inB T.nsB (T.sd.fact 14 (f := .glo "programs_of") rfl)
theorem Tx.g_law_ewer (T : Tx K mg) : mg "_law_ewer" = some (.ref (He.ga K "_law_ewer")) := He.glo_ok T.inB T.nsB (T.sd.fact 15 (f := .glo "_law_ewer") rfl)
theorem Tx.g_law_sip (T : Tx K mg) : mg "_law_sip" = some (.ref (He.ga K "_law_sip")) := He.glo_ok T.inB T.nsB (T.sd.fact 16 (f := .glo "_law_sip") rfl)
theorem Tx.g_law_pick (T : Tx K mg) : mg "_law_pick" = some (.ref (He.ga K "_law_pick")) := He.glo_ok T.inB T.nsB (T.sd.fact 17 (f := .glo "_law_pick") rfl)
theorem Tx.g_law_names (T : Tx K mg) : mg "_law_names" = some (.ref (He.ga K "_law_names")) := He.glo_ok T.inB T.nsB (T.sd.fact 18 (f := .glo "_law_names") rfl)
theorem Tx.g_law_cut (T : Tx K mg) : mg "_law_cut" = some (.ref (He.ga K "_law_cut")) := He.glo_ok T.inB T.nsB (T.sd.fact 19 (f := .glo "_law_cut") rfl)
theorem Tx.g_law_signs (T : Tx K mg) : mg "_law_signs" = some (.ref (He.ga K "_law_signs")) := He.glo_ok T.inB T.nsB (T.sd.fact 20 (f := .glo "_law_signs") rfl)
theorem Tx.g_law (T : Tx K mg) : mg "law" = some (.ref (He.ga K "law")) := He.glo_ok T.inB T.nsB (T.sd.fact 21 (f := .glo "law") rfl)
theorem Tx.f_isinstance (T : Tx K mg) : mg "isinstance" = none := He.free_ok T.inB T.nsB (T.sd.fact 22 (f := .free "isinstance") rfl)
theorem Tx.f_int (T : Tx K mg) : mg "int" = none := He.free_ok T.inB T.nsB (T.sd.fact 23 (f := .free "int") rfl)
theorem Tx.f_bool (T : Tx K mg) : mg "bool" = none := He.free_ok T.inB T.nsB (T.sd.fact 24 (f := .free "bool") rfl)
theorem Tx.f_str (T : Tx K mg) : mg "str" = none := He.free_ok T.inB T.nsB (T.sd.fact 25 (f := .free "str") rfl)
theorem Tx.f_len (T : Tx K mg) : mg "len" = none := He.free_ok T.inB T.nsB (T.sd.fact 26 (f := .free "len") rfl)
theorem Tx.f_all (T : Tx K mg) : mg "all" = none := He.free_ok T.inB T.nsB (T.sd.fact 27 (f := .free "all") rfl)
theorem Tx.f_any (T : Tx K mg) : mg "any" = none := He.free_ok T.inB T.nsB (T.sd.fact 28 (f := .free "any") rfl)
theorem Tx.f_sorted (T : Tx K mg) : mg "sorted" = none := He.free_ok T.inB T.nsB (T.sd.fact 29 (f := .free "sorted") rfl)
theorem Tx.f_zip (T : Tx K mg) : mg "zip" = none := He.free_ok T.inB T.nsB (T.sd.fact 30 (f := .free "zip") rfl)
theorem Tx.f_list (T : Tx K mg) : mg "list" = none := He.free_ok T.inB T.nsB (T.sd.fact 31 (f := .free "list") rfl)
theorem Tx.f_tuple (T : Tx K mg) : mg "tuple" = none := He.free_ok T.inB T.nsB (T.sd.fact 32 (f := .free "tuple") rfl)
theorem Tx.f_range (T : Tx K mg) : mg "range" = none := He.free_ok T.inB T.nsB (T.sd.fact 33 (f := .free "range") rfl)
theorem Tx.f_sum (T : Tx K mg) : mg "sum" = none := He.free_ok T.inB T.nsB (T.sd.fact 34 (f := .free "sum") rfl)
theorem Tx.f_max (T : Tx K mg) : mg "max" = none := He.free_ok T.inB T.nsB (T.sd.fact 35 (f := .free "max") rfl)
theorem Tx.f_abs (T : Tx K mg) : mg "abs" = none := He.free_ok T.inB T.nsB (T.sd.fact 36 (f := .free "abs") rfl)
theorem Tx.f_repr (T : Tx K mg) : mg "repr" = none := He.free_ok T.inB T.nsB (T.sd.fact 37 (f := .free "repr") rfl)
theorem Tx.f_enumerate (T : Tx K mg) : mg "enumerate" = none := He.free_ok T.inB T.nsB (T.sd.fact 38 (f := .free "enumerate") rfl)
theorem Tx.s_SIGNS (T : Tx K mg) : ∃ t, mg "SIGNS" = some (.str "01" t) := He.str_ok T.inB T.nsB (T.sd.fact 39 (f := .str "SIGNS" "01") rfl)
theorem Tx.s_END (T : Tx K mg) : ∃ t, mg "END" = some (.str "end" t) := He.str_ok T.inB T.nsB (T.sd.fact 40 (f := .str "END" "end") rfl)
theorem Tx.i_MOST_SIGNS (T : Tx K mg) : ∃ t, mg "MOST_SIGNS" = some (.int 60 t) := He.int_ok T.inB T.nsB (T.sd.fact 41 (f := .int "MOST_SIGNS" 60) rfl)
theorem Tx.i_MOST_NAME (T : Tx K mg) : ∃ t, mg "MOST_NAME" = some (.int 8 t) := He.int_ok T.inB T.nsB (T.sd.fact 42 (f := .int "MOST_NAME" 8) rfl)
theorem Tx.i_MOST_LENGTH (T : Tx K mg) : ∃ t, mg "MOST_LENGTH" = some (.int 400 t) := He.int_ok T.inB T.nsB (T.sd.fact 43 (f := .int "MOST_LENGTH" 400) rfl)
theorem Tx.i_MOST_LISTED (T : Tx K mg) : ∃ t, mg "MOST_LISTED" = some (.int 40 t) := He.int_ok T.inB T.nsB (T.sd.fact 44 (f := .int "MOST_LISTED" 40) rfl)
theorem Tx.i_MOST_PROGRAMS (T : Tx K mg) : ∃ t, mg "MOST_PROGRAMS" = some (.int 2000 t) := He.int_ok T.inB T.nsB (T.sd.fact 45 (f := .int "MOST_PROGRAMS" 2000) rfl)
theorem Tx.cl (T : Tx K mg) : Cls K (He.ga K "Tongue") := He.cls_ok (T.sd.fact 46 (f := .cls "Tongue") rfl)
theorem Tx.mkT (T : Tx K mg) : Mk K (He.ga K "Tongue") (He.ma K (He.ga K "Tongue") "__init__") := He.mkr_ok (T.sd.fact 47 (f := .mkr "Tongue") rfl)
theorem Tx.na (T : Tx K mg) : NoAttr K (He.ga K "Tongue") "names" := He.noat_ok (T.sd.fact 48 (f := .noat "Tongue" "names") rfl)
theorem Tx.d_is_integer (T : Tx K mg) : ∃ fd, FunD K "is_integer" "is_integer" (defArgs sIsInteger) (defBody sIsInteger) (defScope sIsInteger) [] [] (He.ga K "is_integer") fd := T.sd.def_ 0 rfl
theorem Tx.d_is_within (T : Tx K mg) : ∃ fd, FunD K "is_within" "is_within" (defArgs sIsWithin) (defBody sIsWithin) (defScope sIsWithin) [] [] (He.ga K "is_within") fd := T.sd.def_ 1 rfl
theorem Tx.d_is_name (T : Tx K mg) : ∃ fd, FunD K "is_name" "is_name" (defArgs sIsName) (defBody sIsName) (defScope sIsName) [] [] (He.ga K "is_name") fd := T.sd.def_ 2 rfl
theorem Tx.d_need_number (T : Tx K mg) : ∃ fd, FunD K "need_number" "need_number" (defArgs sNeedNumber) (defBody sNeedNumber) (defScope sNeedNumber) [] [] (He.ga K "need_number") fd := T.sd.def_ 3 rfl
theorem Tx.d_is_apart (T : Tx K mg) : ∃ fd, FunD K "is_apart" "is_apart" (defArgs sIsApart) (defBody sIsApart) (defScope sIsApart) [] [] (He.ga K "is_apart") fd := T.sd.def_ 4 rfl
theorem Tx.d_init (T : Tx K mg) : ∃ fd, FunD K "__init__" "Tongue.__init__" (defArgs sInit) (defBody sInit) (defScope sInit) [] [] (He.ma K (He.ga K "Tongue") "__init__") fd := T.sd.def_ 5 rfl
theorem Tx.d_is_short (T : Tx K mg) : ∃ fd, FunD K "is_short" "is_short" (defArgs sIsShort) (defBody sIsShort) (defScope sIsShort) [] [] (He.ga K "is_short") fd := T.sd.def_ 6 rfl
theorem Tx.d_need_tongue (T : Tx K mg) : ∃ fd, FunD K "need_tongue" "need_tongue" (defArgs sNeedTongue) (defBody sNeedTongue) (defScope sNeedTongue) [.str "tongue"] [] (He.ga K "need_tongue") fd := T.sd.def_ 7 rfl
theorem Tx.d_many_next (T : Tx K mg) : ∃ fd, FunD K "many_next" "many_next" (defArgs sManyNext) (defBody sManyNext) (defScope sManyNext) [] [] (He.ga K "many_next") fd := T.sd.def_ 8 rfl
theorem Tx.d_table_of (T : Tx K mg) : ∃ fd, FunD K "table_of" "table_of" (defArgs sTableOf) (defBody sTableOf) (defScope sTableOf) [] [] (He.ga K "table_of") fd := T.sd.def_ 9 rfl
theorem Tx.d_choices_of (T : Tx K mg) : ∃ fd, FunD K "choices_of" "choices_of" (defArgs sChoicesOf) (defBody sChoicesOf) (defScope sChoicesOf) [] [] (He.ga K "choices_of") fd := T.sd.def_ 10 rfl
theorem Tx.d_all_of (T : Tx K mg) : ∃ fd, FunD K "all_of" "all_of" (defArgs sAllOf) (defBody sAllOf) (defScope sAllOf) [] [] (He.ga K "all_of") fd := T.sd.def_ 11 rfl
theorem Tx.d_row_at (T : Tx K mg) : ∃ fd, FunD K "row_at" "row_at" (defArgs sRowAt) (defBody sRowAt) (defScope sRowAt) [] [] (He.ga K "row_at") fd := T.sd.def_ 12 rfl
theorem Tx.d_how_many (T : Tx K mg) : ∃ fd, FunD K "how_many" "how_many" (defArgs sHowMany) (defBody sHowMany) (defScope sHowMany) [] [] (He.ga K "how_many") fd := T.sd.def_ 13 rfl
theorem Tx.d_programs_of (T : Tx K mg) : ∃ fd, FunD K "programs_of" "programs_of" (defArgs sProgramsOf) (defBody sProgramsOf) (defScope sProgramsOf) [] [] (He.ga K "programs_of") fd := T.sd.def_ 14 rfl
theorem Tx.d_law_ewer (T : Tx K mg) : ∃ fd, FunD K "_law_ewer" "_law_ewer" (defArgs sEwer) (defBody sEwer) (defScope sEwer) [] [] (He.ga K "_law_ewer") fd := T.sd.def_ 15 rfl
theorem Tx.d_law_sip (T : Tx K mg) : ∃ fd, FunD K "_law_sip" "_law_sip" (defArgs sSip) (defBody sSip) (defScope sSip) [] [] (He.ga K "_law_sip") fd := T.sd.def_ 16 rfl
theorem Tx.d_law_pick (T : Tx K mg) : ∃ fd, FunD K "_law_pick" "_law_pick" (defArgs sPick) (defBody sPick) (defScope sPick) [] [] (He.ga K "_law_pick") fd := T.sd.def_ 17 rfl
theorem Tx.d_law_names (T : Tx K mg) : ∃ fd, FunD K "_law_names" "_law_names" (defArgs sNames) (defBody sNames) (defScope sNames) [] [] (He.ga K "_law_names") fd := T.sd.def_ 18 rfl
theorem Tx.d_law_cut (T : Tx K mg) : ∃ fd, FunD K "_law_cut" "_law_cut" (defArgs sCut) (defBody sCut) (defScope sCut) [] [] (He.ga K "_law_cut") fd := T.sd.def_ 19 rfl
theorem Tx.d_law_signs (T : Tx K mg) : ∃ fd, FunD K "_law_signs" "_law_signs" (defArgs sSigns) (defBody sSigns) (defScope sSigns) [] [] (He.ga K "_law_signs") fd := T.sd.def_ 20 rfl
theorem Tx.d_law (T : Tx K mg) : ∃ fd, FunD K "law" "law" (defArgs sLaw) (defBody sLaw) (defScope sLaw) [] [] (He.ga K "law") fd := T.sd.def_ 21 rfl
theorem ba {a b : Bool} (h : (a && b) = true) : a = true ∧ b = true := Bool.and_eq_true_iff.mp h
abbrev CT (K : PySem.W.Frag) : Addr := He.ga K "Tongue"
theorem Tx.read (T : Tx K mg) : ClX.CRead K (CT K) (.type "type") := by
  have e := T.ex
  unfold exB at e
  exact ⟨(ba e).1, He.eqO_ok (ba (ba e).2).1⟩
theorem Tx.words (T : Tx K mg) : ∃ W : Addr, ClX.CVal K (CT K) (.type "type") "WORDS" (.ref W) (.ref W) ∧ ∀ H : Hp, SqT K H W (wds.map V.str) := by
  have e := (ba (ba (ba T.ex).2).2).1
  unfold wordsB at e
  split at e
  · rename_i W h
    refine ⟨W, ⟨h, rfl⟩, fun H => .inr ?_⟩
    unfold tupAt at e
    split at e
    · rename_i c d its n sl l
      obtain ⟨e1, e2⟩ := ba e
      obtain ⟨e2, e3⟩ := ba e2
      have ec : c = "tuple" := of_decide_eq_true e1
      subst ec
      exact ⟨_, its, n, l, rfl, rfl, of_decide_eq_true e2, He.relAll_ok e3⟩
    · cases e
  · cases e
theorem Tx.tyT (T : Tx K mg) {H : Hp} {a dx : Addr} {fs : List (Str × V)} (e : H a = some (.ins (CT K) dx fs)) : TyOf K H (.ref a) (.ref (CT K)) := by
  have q := (ba (ba (ba T.ex).2).2).2
  obtain ⟨q1, q⟩ := ba q
  obtain ⟨q2, q⟩ := ba q
  obtain ⟨q3, q4⟩ := ba q
  exact .ins e T.cl (He.eqO_ok q1) (He.eqO_ok q2) (of_decide_eq_true q3) (of_decide_eq_true q4)
end
/-! ### a def of the program, as its callers take it -/
structure Cl (P : Program) (w : World) (K : PySem.W.Frag) (mg : Str → Option Value) (base : Heap) (k : Nat) (x : Str) (ps : List Str) (sp : Sp) : Prop where
  ex : ∃ f fd, FnOk P w K mg base CX0 k f fd ps sp ∧ Binds K fd ps [] ∧ PySem.W.keepIn K (.ref f) = true ∧ mg x = some (.ref f)
section
variable {P : Program} {w : World} {K : PySem.W.Frag} {mg : Str → Option Value} {base : Heap}
theorem okD {x qual : Str} {params : Arguments} {body : List Stmt} {scope : Scope} {dvs : List V} {f : Addr} {fd : FuncData} {N ps : List Str} {k : Nat} {sp : Sp} (F : FunD K x qual params body scope dvs [] f fd) (S : FnScope N ps scope) (len : ∀ vs H Q E, sp vs H Q E → vs.length = ps.length)
    (walk : ∀ (cdv : Value) (A : Around) (outer : List Env) (s : Shared) (H : Hp) (vs : List V) (Q : VK) (E : XK), Room k (A.deeper (envOfC qual scope s.heap.objs.size f cdv)) → sp vs H Q E →
      ∃ t, PSs (cxOf CX0 P w K mg base N qual scope f cdv A outer s H E).nox body t ∧ t { nx := fun _ H' => Q .non H', rt := Q } (start N vs) H) : FnOk P w K mg base CX0 (k + 1) f fd ps sp :=
  F.ok S len fun cdv A outer s H vs Q E hr h => by
    obtain ⟨t, a, b⟩ := walk cdv A outer s H vs Q E hr h
    exact ⟨t, a.nox, b⟩
theorem clD {x : Str} {params : Arguments} {body : List Stmt} {scope : Scope} {f : Addr} {fd : FuncData} {N ps : List Str} {k : Nat} {sp : Sp} (F : FunD K x x params body scope [] [] f fd) (g : mg x = some (.ref f)) (S : FnScope N ps scope)
    (bd : ∀ (kV doc pm : Value) (an : Option Addr) (cdv ct : Value) (us : List Value), us.length = ps.length → bindArgs (PySem.W.fnOf x x params body scope .none kV doc pm an cdv ct) ⟨us, []⟩ = pure (ps.zip us))
    (len : ∀ vs H Q E, sp vs H Q E → vs.length = ps.length)
    (walk : ∀ (cdv : Value) (A : Around) (outer : List Env) (s : Shared) (H : Hp) (vs : List V) (Q : VK) (E : XK), Room k (A.deeper (envOfC x scope s.heap.objs.size f cdv)) → sp vs H Q E →
      ∃ t, PSs (cxOf CX0 P w K mg base N x scope f cdv A outer s H E).nox body t ∧ t { nx := fun _ H' => Q .non H', rt := Q } (start N vs) H) : Cl P w K mg base (k + 1) x ps sp :=
  ⟨f, fd, okD F S len walk, F.bindsN bd, F.kp, g⟩
end
section
variable {X : Cx} {k : Nat} {x : Str} {ps : List Str} {sp : Sp} {p pos : Pos} {e : Expr} {es : List Expr} {t : TA}
theorem pe_c (c : Cl X.prog X.w X.K X.mg X.base k x ps sp) (hr : Room k X.A) (hg : Gl X x) (ha : PA X (e :: es) t) (hdb : (x == ("__debug__" : Str)) = false := by decide)
    (he : starEach (e :: es) X.env = (false, eval e X.env) :: starEach es X.env := by rfl) (hpl : (backTo pos (starEach es X.env)).any (·.1) = false := by rfl) : PE X (.Call (.Name x p) (e :: es) [] pos) (tCall sp [] E0 t) := by
  obtain ⟨f, fd, F, b, kp, g⟩ := c
  exact pe_call F hr hg g kp b .nil pass0 ha hdb he hpl
end
/-! ### texts -/
def mk (l : List Nat) : Str := ⟨l.toArray⟩
/-- a name as a value -/
abbrev S (l : List Nat) : V := .str (mk l)
theorem mk_tl (l : List Nat) : (mk l).cps.toList = l := rfl
theorem mk_len (l : List Nat) : (mk l).length = l.length := by simp [mk, Str.length]
theorem mk_inj {a b : List Nat} (h : mk a = mk b) : a = b := by
  have := congrArg (fun s : Str => s.cps.toList) h
  exact this
theorem mk_app (a b : List Nat) : mk a ++ mk b = mk (a ++ b) := by
  apply TL.ext_tl
  rw [TL.tl_append]
  rfl
theorem S_inj {a b : List Nat} (h : S a = S b) : a = b := mk_inj (V.str.inj h)
theorem S_dec (a b : List Nat) : decide (S a = S b) = decide (a = b) := by
  by_cases h : a = b
  · subst h; simp
  · rw [decide_eq_false h, decide_eq_false (fun q => h (S_inj q))]
theorem cut_to (l : List Nat) (k : Nat) : cutS (mk l) none (some (k : Int)) = mk (l.take k) := by
  unfold cutS
  rw [HT.sIx_none, HT.sIx_nat, mk_len]
  apply TL.ext_tl
  show ((l.drop 0).take (min k l.length - 0)) = l.take k
  rw [List.drop_zero, Nat.sub_zero]
  by_cases h : k ≤ l.length
  · rw [Nat.min_eq_left h]
  · rw [Nat.min_eq_right (by omega), List.take_of_length_le (Nat.le_refl _), List.take_of_length_le (by omega)]
theorem cut_from (l : List Nat) (k : Nat) : cutS (mk l) (some (k : Int)) none = mk (l.drop k) := by
  unfold cutS
  rw [HT.sIx_none, HT.sIx_nat, mk_len]
  apply TL.ext_tl
  show ((l.drop (min k l.length)).take (l.length - min k l.length)) = l.drop k
  by_cases h : k ≤ l.length
  · rw [Nat.min_eq_left h]
    exact List.take_of_length_le (by rw [List.length_drop]; exact Nat.le_refl _)
  · rw [Nat.min_eq_right (by omega), List.drop_of_length_le (Nat.le_refl _), List.drop_of_length_le (by omega), List.take_nil]
/-! ### views -/
/-- all but e stands -/
def But (e : Addr) (H H' : Hp) : Prop := ∀ b o, H b = some o → b ≠ e → H' b = some o
theorem But.of {H H' : Hp} (h : Same H H') (e : Addr) : But e H H' := fun b o q _ => h b o q
theorem But.trans {e : Addr} {H H1 H2 : Hp} (a : But e H H1) (b : But e H1 H2) : But e H H2 := fun c o q n => b c o (a c o q n) n
theorem But.upd {e : Addr} {H : Hp} {o : HO} : But e H (upd H e o) := fun b u q n => by rw [upd_ne n]; exact q
theorem same_upd {H : Hp} {p : Addr} {o : HO} (h : H p = none) : Same H (upd H p o) := fun b u q => by rw [upd_ne (ne_of_none q h)]; exact q
theorem Same.refl' (H : Hp) : Same H H := fun _ _ q => q
theorem Same.tr {H H1 H2 : Hp} (a : Same H H1) (b : Same H1 H2) : Same H H2 := fun c o q => b c o (a c o q)
/-- a new object that was filled step by step: what stood ahead of it stands -/
theorem same_of_but {H H1 H2 : Hp} {p : Addr} (h : H p = none) (a : Same H H1) (b : But p H1 H2) : Same H H2 := fun c o q => b c o (a c o q) (ne_of_none q h)
/-! ### promises -/
/-- eight drawn names -/
structure Good (ns : List (List Nat)) : Prop where
  ap : Apt ns
  l8 : ns.length = 8
  each : ∀ a ∈ ns, a.length ≤ 8 ∧ Bin a
abbrev nmF (ns : List (List Nat)) : Nat → List Nat := fun i => ns.getD i []
theorem Good.code {ns : List (List Nat)} (g : Good ns) : Code (nmF ns) := code_of g.ap g.l8 fun a ha => (g.each a ha).2
theorem Good.pos {ns : List (List Nat)} (g : Good ns) : ∀ a ∈ ns, 1 ≤ a.length := fun a ha => by
  obtain ⟨i, hi⟩ := List.getElem?_of_mem ha
  have hl := (List.getElem?_eq_some_iff.mp hi).1
  have := g.code.ne i (by have := g.l8; omega)
  rw [show nmF ns i = a by show ns.getD i [] = a; rw [List.getD_eq_getElem?_getD, hi]; rfl] at this
  exact List.length_pos_iff.mpr this
theorem Good.get {ns : List (List Nat)} (g : Good ns) {i : Nat} (h : i < 8) : ns[i]? = some (nmF ns i) := by
  have hl : i < ns.length := by rw [g.l8]; exact h
  show ns[i]? = some (ns.getD i [])
  rw [List.getD_eq_getElem?_getD, List.getElem?_eq_getElem hl]
  rfl
theorem Good.short {ns : List (List Nat)} (g : Good ns) {i : Nat} (h : i < 8) : (nmF ns i).length ≤ 8 := (g.each _ (List.mem_of_getElem? (g.get h))).1
/-- a Tongue stands at p -/
def TongAt (K : PySem.W.Frag) (H : Hp) (p : Addr) (ns : List (List Nat)) : Prop := ∃ dx t : Addr, H p = some (.ins (CT K) dx [("names", .ref t)]) ∧ H t = some (.tup (ns.map S))
theorem TongAt.same {K : PySem.W.Frag} {H H' : Hp} {p : Addr} {ns : List (List Nat)} (t : TongAt K H p ns) (s : Same H H') : TongAt K H' p ns := by
  obtain ⟨dx, a, h1, h2⟩ := t
  exact ⟨dx, a, s _ _ h1, s _ _ h2⟩
theorem TongAt.but {K : PySem.W.Frag} {H H' : Hp} {p e : Addr} {ns : List (List Nat)} (t : TongAt K H p ns) (s : But e H H') {xs : List V} (he : H e = some (.lst xs)) : TongAt K H' p ns := by
  obtain ⟨dx, a, h1, h2⟩ := t
  exact ⟨dx, a, s _ _ h1 (ne_of h1 he (by intro z; cases z)), s _ _ h2 (ne_of h2 he (by intro z; cases z))⟩
/-- the ewer at e: its cells at c, t of them begun -/
def Ewer (H : Hp) (e c : Addr) (t : Int) : Prop := ∃ (l : Int) (ns : List Int), H e = some (.lst [.ref c, .int t, .int l]) ∧ H c = some (.lst (ns.map V.int)) ∧ ns.length ≤ 63
theorem Ewer.ne {H : Hp} {e c : Addr} {t : Int} (h : Ewer H e c t) : c ≠ e := by
  obtain ⟨l, ns, h1, h2, _⟩ := h
  refine ne_of h2 h1 fun q => ?_
  have q' := HO.lst.inj q
  cases ns with
  | nil => cases q'
  | cons x r => exact absurd (List.cons.inj q').1 (by intro z; cases z)
theorem Ewer.same {H H' : Hp} {e c : Addr} {t : Int} (h : Ewer H e c t) (s : Same H H') : Ewer H' e c t := by
  obtain ⟨l, ns, h1, h2, h3⟩ := h
  exact ⟨l, ns, s _ _ h1, s _ _ h2, h3⟩
/-- a tuple of words at a -/
def ProgAt (H : Hp) (a : Addr) (p : List Nat) : Prop := H a = some (.tup (p.map fun i => V.str (wd i)))
/-- a row of programs: a list (a tuple) of tuples -/
def RowL (H : Hp) (r : Addr) (ps : List (List Nat)) : Prop := ∃ as : List Addr, H r = some (.lst (as.map V.ref)) ∧ Paired (ProgAt H) as ps
def RowT (H : Hp) (r : Addr) (ps : List (List Nat)) : Prop := ∃ as : List Addr, H r = some (.tup (as.map V.ref)) ∧ Paired (ProgAt H) as ps
theorem progs_same {H H' : Hp} (s : Same H H') : ∀ {as : List Addr} {ps : List (List Nat)}, Paired (ProgAt H) as ps → Paired (ProgAt H') as ps
  | _, _, .nil => .nil
  | _, _, .cons h t => .cons (s _ _ h) (progs_same s t)
theorem RowL.same {H H' : Hp} {r : Addr} {ps : List (List Nat)} (h : RowL H r ps) (s : Same H H') : RowL H' r ps := by
  obtain ⟨as, h1, h2⟩ := h
  exact ⟨as, s _ _ h1, progs_same s h2⟩
theorem RowT.same {H H' : Hp} {r : Addr} {ps : List (List Nat)} (h : RowT H r ps) (s : Same H H') : RowT H' r ps := by
  obtain ⟨as, h1, h2⟩ := h
  exact ⟨as, s _ _ h1, progs_same s h2⟩
theorem paired_len {α β : Type} {F : α → β → Prop} : ∀ {l1 : List α} {l2 : List β}, Paired F l1 l2 → l1.length = l2.length
  | _, _, .nil => rfl
  | _, _, .cons _ t => congrArg (· + 1) (paired_len t)
theorem paired_app {α β : Type} {F : α → β → Prop} : ∀ {l1 m1 : List α} {l2 m2 : List β}, Paired F l1 l2 → Paired F m1 m2 → Paired F (l1 ++ m1) (l2 ++ m2)
  | _, _, _, _, .nil, h => h
  | _, _, _, _, .cons h t, g => .cons h (paired_app t g)
theorem paired_at {α β : Type} {F : α → β → Prop} : ∀ {l1 : List α} {l2 : List β}, Paired F l1 l2 → ∀ {i : Nat} {a : α}, l1[i]? = some a → ∃ b, l2[i]? = some b ∧ F a b
  | _, _, .nil, i, a, h => by cases h
  | _, _, .cons h t, 0, a, e => ⟨_, rfl, by rw [← Option.some.inj e]; exact h⟩
  | _, _, .cons h t, i + 1, a, e => paired_at t (i := i) e
theorem rowT_data {K : PySem.W.Frag} {H : Hp} {r : Addr} {ps : List (List Nat)} (h : RowT H r ps) : Dp K H (.ref r) (dProgs ps) := by
  obtain ⟨as, h1, h2⟩ := h
  have texts : ∀ p : List Nat, DpAll K H (p.map fun i => V.str (wd i)) (p.map fun i => PyData.str (wd i)) := fun p => by
    induction p with
    | nil => exact .nil
    | cons i p ih => exact .cons (.str _) ih
  have rows : ∀ {as : List Addr} {ps : List (List Nat)}, Paired (ProgAt H) as ps → DpAll K H (as.map V.ref) (ps.map dProg) := fun {as ps} q => by
    induction q with
    | nil => exact .nil
    | cons h t ih => exact .cons (.tup (SqT.of h) (texts _)) ih
  exact .tup (SqT.of h1) (rows h2)
end K15

set_option Elab.async false
set_option linter.all false
set_option maxRecDepth 100000
set_option maxHeartbeats 4000000
namespace K15
open PySem PySem.Spec PyProof.Rows L2
section
variable {P : Program} {w : World} {K : PySem.W.Frag} {mg : Str → Option Value} {base : Heap}
/-! ### is_integer -/
def spIsInteger : Sp := fun vs H Q _ => ∃ v : Int, vs = [.int v] ∧ Q (.bl true) H
theorem sc_is_integer : FnScope ["value"] ["value"] (defScope sIsInteger) := ⟨rfl, rfl, rfl, by decide +kernel, rfl, by decide +kernel, by decide +kernel⟩
theorem ok_is_integer (T : Tx K mg) : Cl P w K mg base 1 "is_integer" ["value"] spIsInteger := by
  obtain ⟨fd, F⟩ := T.d_is_integer
  refine clD F T.g_is_integer sc_is_integer (fun _ _ _ _ _ _ us hl => match us, hl with | [_], _ => rfl) (fun vs H Q E h => ?_) (fun cdv A outer s H vs Q E hr h => ?_)
  · obtain ⟨v, rfl, _⟩ := h
    rfl
  · obtain ⟨v, rfl, k⟩ := h
    refine ⟨_, pss_one (ps_ret (pe_and (pe_callB call_isi (by rfl) T.f_isinstance (by decide +kernel) (pa_cons (pv 0) (pa_cons (pe_bltn (v := .ty "int") (u := .type "int") (by rfl) T.f_int (by decide +kernel) rfl) pa_nil)))
      (pe_one (pe_not (pe_callB call_isi (by rfl) T.f_isinstance (by decide +kernel) (pa_cons (pv 0) (pa_cons (pe_bltn (v := .ty "bool") (u := .type "bool") (by rfl) T.f_bool (by decide +kernel) rfl) pa_nil))))))), ?_⟩
    refine ⟨_, rfl, _, _, _, _, true, rfl, .ty "int", .base (.int v), kit_ty (by decide +kernel), true, rfl, iteT ?_⟩
    exact ⟨_, rfl, _, _, _, _, false, rfl, .ty "bool", .base (.int v), kit_ty (by decide +kernel), false, rfl, k⟩
/-! ### is_within -/
def spIsWithin : Sp := fun vs H Q _ => ∃ v lo hi : Int, vs = [.int v, .int lo, .int hi] ∧ lo ≤ v ∧ v ≤ hi ∧ Q (.bl true) H
theorem sc_is_within : FnScope ["value", "least", "most"] ["value", "least", "most"] (defScope sIsWithin) := ⟨rfl, rfl, rfl, by decide +kernel, rfl, by decide +kernel, by decide +kernel⟩
theorem ok_is_within (T : Tx K mg) : Cl P w K mg base 2 "is_within" ["value", "least", "most"] spIsWithin := by
  obtain ⟨fd, F⟩ := T.d_is_within
  refine clD F T.g_is_within sc_is_within (fun _ _ _ _ _ _ us hl => match us, hl with | [_, _, _], _ => rfl) (fun vs H Q E h => ?_) (fun cdv A outer s H vs Q E hr h => ?_)
  · obtain ⟨v, lo, hi, rfl, _⟩ := h
    rfl
  · obtain ⟨v, lo, hi, rfl, h1, h2, k⟩ := h
    refine ⟨_, pss_cons (ps_if (pt_not (pt_val (pe_c (ok_is_integer T) hr (by rfl) (pa_cons (pv 0) pa_nil)))) (pss_one (ps_ret pe_bl)) pss_nil)
      (pss_one (ps_ret (pe_and (pe_or (pe_cmpR op_isN (pv 1) pe_non (nomark _)) (pe_one (pe_cmpR op_le (pv 1) (pv 0) (nomark _))))
        (pe_one (pe_or (pe_cmpR op_isN (pv 2) pe_non (nomark _)) (pe_one (pe_cmpR op_le (pv 0) (pv 2) (nomark _)))))))), ?_⟩
    refine ⟨_, rfl, v, rfl, true, rfl, iteF ?_⟩
    refine ⟨_, rfl, rfl, false, rfl, iteF ⟨_, rfl, _, rfl, _, _, rfl, rfl, true, congrArg V.bl (decide_eq_true h1), iteT ?_⟩⟩
    refine ⟨_, rfl, rfl, false, rfl, iteF ⟨_, rfl, _, rfl, _, _, rfl, rfl, ?_⟩⟩
    show Q (.bl (decide (v ≤ hi))) H
    rw [decide_eq_true h2]
    exact k
/-! ### need_number -/
def spNeedNumber : Sp := fun vs H Q _ => ∃ (v lo hi : Int) (x : V), vs = [.int v, x, .int lo, .int hi] ∧ lo ≤ v ∧ v ≤ hi ∧ Q .non H
theorem sc_need_number : FnScope ["value", "part", "least", "most"] ["value", "part", "least", "most"] (defScope sNeedNumber) := ⟨rfl, rfl, rfl, by decide +kernel, rfl, by decide +kernel, by decide +kernel⟩
theorem ok_need_number (T : Tx K mg) : Cl P w K mg base 3 "need_number" ["value", "part", "least", "most"] spNeedNumber := by
  obtain ⟨fd, F⟩ := T.d_need_number
  refine clD F T.g_need_number sc_need_number (fun _ _ _ _ _ _ us hl => match us, hl with | [_, _, _, _], _ => rfl) (fun vs H Q E h => ?_) (fun cdv A outer s H vs Q E hr h => ?_)
  · obtain ⟨v, lo, hi, x, rfl, _⟩ := h
    rfl
  · obtain ⟨v, lo, hi, x, rfl, h1, h2, k⟩ := h
    refine ⟨_, pss_one (ps_if (pt_not (pt_val (pe_c (ok_is_within T) hr (by rfl) (pa_cons (pv 0) (pa_cons (pv 2) (pa_cons (pv 3) pa_nil)))))) (pss_one ps_never) pss_nil), ?_⟩
    exact ⟨_, rfl, _, rfl, _, rfl, v, lo, hi, rfl, h1, h2, true, rfl, iteF k⟩
/-! ### is_name, is_short -/
def spIsName : Sp := fun vs H Q _ => ∃ l : List Nat, vs = [S l] ∧ 1 ≤ l.length ∧ l.length ≤ 60 ∧ Bin l ∧ ∀ H', Same H H' → Q (.bl true) H'
theorem sc_is_name : FnScope ["value", "sign"] ["value"] (defScope sIsName) := ⟨rfl, rfl, rfl, by decide +kernel, rfl, by decide +kernel, by decide +kernel⟩
theorem small60 {n : Nat} (h : n ≤ 1000) : n ≤ sizeLine := Nat.le_trans h (by decide)
theorem ok_is_name (T : Tx K mg) : Cl P w K mg base 1 "is_name" ["value"] spIsName := by
  obtain ⟨fd, F⟩ := T.d_is_name
  obtain ⟨tk, g60⟩ := T.i_MOST_SIGNS
  obtain ⟨tk2, gS⟩ := T.s_SIGNS
  refine clD F T.g_is_name sc_is_name (fun _ _ _ _ _ _ us hl => match us, hl with | [_], _ => rfl) (fun vs H Q E h => ?_) (fun cdv A outer s H vs Q E hr h => ?_)
  · obtain ⟨l, rfl, _⟩ := h
    rfl
  · obtain ⟨l, rfl, h1, h2, hb, k⟩ := h
    refine ⟨_, pss_one (ps_ret (pe_and (pe_callB call_isi (by rfl) T.f_isinstance (by decide +kernel) (pa_cons (pv 0) (pa_cons (pe_bltn (v := .ty "str") (u := .type "str") (by rfl) T.f_str (by decide +kernel) rfl) pa_nil)))
      (pe_and (pe_chain op_le op_le pe_int (pe_callB call_len_str (by rfl) T.f_len PySem.boot_len (pa_cons (pv 0) pa_nil)) (pe_glob (v := .int 60) (by rfl) g60 ⟨_, rfl⟩))
      (pe_one (pe_callB (cr_all rfl) (by rfl) T.f_all (by decide +kernel) (pa_cons
        (pe_lc (own := [("sign", 1)]) (g := gName 1) (tt := tYes) rfl sc_is_name.nd (pi_str (pv 0)) (blkOk_by (N := ["value", "sign"]) (sc := defScope sIsName) (by decide +kernel)) (fun _ _ _ _ _ => pg_name (i := 1) sc_is_name.nd rfl (Or.inl rfl)) (fun _ _ _ _ _ => pts_nil)
          (fun _ _ _ _ _ => pe_cmpR op_in_sign (pv 1) (pe_glob (v := .str "01") (by rfl) gS ⟨_, rfl⟩) rfl)) pa_nil)))))), ?_⟩
    refine ⟨_, rfl, _, _, _, _, true, rfl, .ty "str", .base (.str _), kit_ty (by decide +kernel), true, rfl, iteT ?_⟩
    refine ⟨_, rfl, mk l, rfl, ?_, 1, ((mk l).length : Int), rfl, rfl, true, congrArg V.bl (decide_eq_true ?_), iteT ⟨_, 60, rfl, rfl, true, congrArg V.bl (decide_eq_true ?_), iteT ?_⟩⟩
    · rw [mk_len]; exact small60 (by omega)
    · rw [mk_len]; omega
    · rw [mk_len]; omega
    refine ⟨_, rfl, _, rfl, fun D hD => ?_⟩
    refine lc_it walk_str (fun i H' => Same H H' ∧ H' D = some (.lst ((List.replicate i true).map V.bl)) ∧ i ≤ l.length) ⟨same_upd hD, upd_same, Nat.zero_le _⟩ (fun _ _ _ _ => trivial) ?_ ?_
    · rintro i x H1 H2 hi ⟨s1, e1, hil⟩ ⟨rfl, c, hc, rfl⟩
      have hc' : l[i]? = some c := by simpa [mk] using hc
      have hil' : i < l.length := (List.getElem?_eq_some_iff.mp hc').1
      refine ⟨rfl, _, rfl, c, _, rfl, rfl, _, e1, ?_, ?_, ?_, ?_⟩
      · rw [List.length_map, List.length_replicate]; exact Nat.lt_of_le_of_lt (Nat.le_of_lt hil') (Nat.lt_of_le_of_lt h2 (by decide))
      · exact same_of_but hD s1 But.upd
      · have inn : decide (c ∈ ("01" : Str).cps.toList) = true := decide_eq_true (by
          rcases hb c (List.mem_of_getElem? hc') with e | e <;> rw [e] <;> decide +kernel)
        rw [upd_same, inn, List.replicate_succ', List.map_append]
        rfl
      · exact hil'
    · rintro H1 ⟨s1, e1, _⟩
      refine ⟨D, _, rfl, SqL.of e1, ?_⟩
      rw [show (List.replicate (mk l).cps.size true).all id = true by simp]
      exact k H1 s1
def spIsShort : Sp := fun vs H Q _ => ∃ l : List Nat, vs = [S l] ∧ 1 ≤ l.length ∧ l.length ≤ 8 ∧ Bin l ∧ ∀ H', Same H H' → Q (.bl true) H'
theorem sc_is_short : FnScope ["value"] ["value"] (defScope sIsShort) := ⟨rfl, rfl, rfl, by decide +kernel, rfl, by decide +kernel, by decide +kernel⟩
theorem ok_is_short (T : Tx K mg) : Cl P w K mg base 2 "is_short" ["value"] spIsShort := by
  obtain ⟨fd, F⟩ := T.d_is_short
  obtain ⟨tk, g8⟩ := T.i_MOST_NAME
  refine clD F T.g_is_short sc_is_short (fun _ _ _ _ _ _ us hl => match us, hl with | [_], _ => rfl) (fun vs H Q E h => ?_) (fun cdv A outer s H vs Q E hr h => ?_)
  · obtain ⟨l, rfl, _⟩ := h
    rfl
  · obtain ⟨l, rfl, h1, h2, hb, k⟩ := h
    refine ⟨_, pss_one (ps_ret (pe_and (pe_c (ok_is_name T) hr (by rfl) (pa_cons (pv 0) pa_nil))
      (pe_one (pe_cmpR op_le (pe_callB call_len_str (by rfl) T.f_len PySem.boot_len (pa_cons (pv 0) pa_nil)) (pe_glob (v := .int 8) (by rfl) g8 ⟨_, rfl⟩) (nomark _))))), ?_⟩
    refine ⟨_, rfl, l, rfl, h1, by omega, hb, fun H1 s1 => ⟨true, rfl, iteT ?_⟩⟩
    refine ⟨_, rfl, mk l, rfl, ?_, ((mk l).length : Int), 8, rfl, rfl, ?_⟩
    · rw [mk_len]; exact small60 (by omega)
    · show Q (.bl (decide (((mk l).length : Int) ≤ 8))) H1
      rw [decide_eq_true (by rw [mk_len]; omega)]
      exact k H1 s1
end
end K15

set_option Elab.async false
set_option linter.all false
set_option maxRecDepth 100000
set_option maxHeartbeats 4000000
namespace K15
open PySem PySem.Spec PyProof.Rows L2
theorem starts_pre {x y : List Nat} (h : Txt.startswith (mk x) (mk y) = true) : y <+: x := by
  unfold Txt.startswith at h
  have h2 := (Bool.and_eq_true_iff.mp h).2
  rw [StrLaws.subAt_eq] at h2
  have h3 : ((x.drop 0).take (mk y).length) = y := by simpa [mk_tl] using h2
  rw [mk_len, List.drop_zero] at h3
  exact take_pre h3
theorem Same.free' {H H' : Hp} {p : Addr} (s : Same H H') (h : H' p = none) : H p = none := by
  cases q : H p with
  | none => rfl
  | some o => rw [s _ _ q] at h; cases h
/-- two names from a pair -/
def gTwo (K : PySem.W.Frag) (i j : Nat) : TG := gTup K 2 (gCons (gName i) (gCons (gName j) gNil))
section
variable {P : Program} {w : World} {K : PySem.W.Frag} {mg : Str → Option Value} {base : Heap}
/-! ### is_apart -/
def spIsApart (K : PySem.W.Frag) : Sp := fun vs H Q _ => ∃ (a : Addr) (ns : List (List Nat)), vs = [.ref a] ∧ SqL K H a (ns.map S) ∧ Apt ns ∧ ns.length ≤ 60 ∧ ∀ H', Same H H' → Q (.bl true) H'
theorem sc_is_apart : FnScope ["names", "told", "one", "other"] ["names"] (defScope sIsApart) := ⟨rfl, rfl, rfl, by decide +kernel, rfl, by decide +kernel, by decide +kernel⟩
theorem ok_is_apart (T : Tx K mg) : Cl P w K mg base 1 "is_apart" ["names"] (spIsApart K) := by
  obtain ⟨fd, F⟩ := T.d_is_apart
  refine clD F T.g_is_apart sc_is_apart (fun _ _ _ _ _ _ us hl => match us, hl with | [_], _ => rfl) (fun vs H Q E h => ?_) (fun cdv A outer s H vs Q E hr h => ?_)
  · obtain ⟨a, ns, rfl, _⟩ := h
    rfl
  · obtain ⟨a, ns, rfl, hS, ap, hl, k⟩ := h
    have nd := sc_is_apart.nd
    refine ⟨_, pss_cons (ps_set (i := 1) nd rfl (Or.inl rfl) (pe_callB cr_sortedS (by rfl) T.f_sorted (by decide +kernel) (pa_cons (pv 0) pa_nil)))
      (pss_one (ps_ret (pe_not (pe_callB (cr_any rfl) (by rfl) T.f_any (by decide +kernel) (pa_cons
        (pe_lc (own := [("one", 2), ("other", 3)]) (g := gTwo K 2 3) (tt := tYes) rfl nd (pi_zip (by rfl) T.f_zip (pa_cons (pv 1) (pa_cons (pe_slice sl_list (pv 1) (po_some pe_int) po_none) pa_nil)))
          (blkOk_by (N := ["names", "told", "one", "other"]) (sc := defScope sIsApart) (by decide +kernel))
          (fun _ _ _ _ _ => pg_tup rfl (pgs_cons (pg_name (i := 2) nd rfl (Or.inl rfl)) (pgs_cons (pg_name (i := 3) nd rfl (Or.inl rfl)) pgs_nil))) (fun _ _ _ _ _ => pts_nil)
          (fun _ _ _ _ _ => pe_m1 PySem.F.slot_str_startswith PySem.F.type_str_startswith mt_startswith (pv 3) (pv 2))) pa_nil))))), ?_⟩
    have eS : ns.map S = (ns.map mk).map V.str := by rw [List.map_map]; rfl
    refine ⟨_, rfl, a, ns.map mk, rfl, by rw [← eS]; exact hS, by rw [List.length_map]; omega, fun ys p perm _ np => ?_⟩
    obtain ⟨ms, pm, rfl⟩ := perm_of_map mk perm ns rfl
    have apm : Apt ms := ap.perm pm.symm
    have lm : ms.length = ns.length := pm.length_eq
    refine ⟨_, rfl, _, rfl, 1, rfl, p, _, rfl, SqL.of upd_same, fun c nc => ?_⟩
    have npc : p ≠ c := fun e => by rw [← e, upd_same] at nc; cases nc
    refine ⟨p, c, _, _, rfl, SqL.of (by rw [upd_ne npc, upd_same]), SqL.of upd_same, fun D hD => ?_⟩
    have s1 : Same H (upd H p (.lst ((ms.map mk).map V.str))) := same_upd np
    have s2 := s1.trans (same_upd (o := .lst (cutV ((ms.map mk).map V.str) (some 1) none)) nc)
    refine lc_it (walk_zip rfl) (fun i H' => ∃ bs : List Bool, Same (upd (upd H p (.lst ((ms.map mk).map V.str))) c (.lst (cutV ((ms.map mk).map V.str) (some 1) none))) H' ∧ H' D = some (.lst (bs.map V.bl)) ∧ bs.length = i ∧ ∀ b ∈ bs, b = false)
      ⟨[], same_upd hD, upd_same, rfl, fun _ z => (nomatch z)⟩ (fun i H' _ ⟨bs, s3, _⟩ => ⟨SqL.of (s3 _ _ (by rw [upd_ne npc, upd_same])), SqL.of (s3 _ _ upd_same)⟩) ?_ ?_
    · rintro i v H1 H2 hi ⟨bs, s3, eD, lb, ff⟩ ⟨t, x, y, rfl, nt, rfl, ex, ey⟩
      have hx : ((ms.map mk).map V.str)[i]? = some x := ex
      have hy : (cutV ((ms.map mk).map V.str) (some 1) none)[i]? = some y := ey
      have hc1 : cutV ((ms.map mk).map V.str) (some 1) none = ((ms.map mk).map V.str).drop 1 := by
        unfold cutV
        rw [show (some (1 : Int)) = some ((1 : Nat) : Int) from rfl, HT.sIx_nat, HT.sIx_none]
        generalize (ms.map mk).map V.str = zs
        cases zs with
        | nil => rfl
        | cons z zs => simp
      rw [hc1, List.getElem?_drop, List.map_map, List.getElem?_map] at hy
      rw [List.map_map, List.getElem?_map] at hx
      obtain ⟨u, eu, rfl⟩ := Option.map_eq_some_iff.mp hx
      obtain ⟨v, ev, rfl⟩ := Option.map_eq_some_iff.mp hy
      have ne : u ≠ v := fun e => by
        subst e
        obtain ⟨g1, g2⟩ := List.getElem?_eq_some_iff.mp eu
        obtain ⟨g3, g4⟩ := List.getElem?_eq_some_iff.mp ev
        have := (List.getElem_inj apm.1).mp (g2.trans g4.symm)
        omega
      have no : Txt.startswith (mk v) (mk u) = false := by
        cases q : Txt.startswith (mk v) (mk u) with
        | false => rfl
        | true => exact (ne (apm.2 u (List.mem_of_getElem? eu) v (List.mem_of_getElem? ev) (starts_pre q))).elim
      have nDt : D ≠ t := ne_of_none eD nt
      refine ⟨t, _, rfl, SqT.of upd_same, rfl, _, _, rfl, _, _, rfl, rfl, rfl, V.str (mk v), rfl, ⟨_, rfl⟩, V.str (mk u), rfl, mk v, mk u, rfl, rfl, bs.map V.bl, by rw [upd_ne nDt]; exact eD, ?_, bs ++ [false], ?_, ?_, ?_, ?_⟩
      · rw [List.length_map, lb]
        have : i < 64 := by simp at hi; omega
        exact Nat.lt_trans this (by decide)
      · exact same_of_but hD (s3.trans (same_upd nt)) But.upd
      · rw [upd_same, no, List.map_append]
        rfl
      · rw [List.length_append, lb]; rfl
      · intro b hb
        rcases List.mem_append.mp hb with hb | hb
        · exact ff b hb
        · simpa using hb
    · rintro H1 ⟨bs, s3, eD, _, ff⟩
      refine ⟨D, bs, rfl, SqL.of eD, false, ?_, k H1 (s2.trans s3)⟩
      have : bs.any id = false := by
        rw [List.any_eq_false]
        intro b hb
        rw [ff b hb]
        simp
      rw [this]
/-! ### need_tongue -/
structure ClT (P : Program) (w : World) (K : PySem.W.Frag) (mg : Str → Option Value) (base : Heap) (k : Nat) (x : Str) (ps : List Str) (dvs : List V) (sp : Sp) : Prop where
  ex : ∃ f fd ds, FnOk P w K mg base CX0 k f fd ps sp ∧ Vals dvs ds ∧ Binds K fd ps ds ∧ PySem.W.keepIn K (.ref f) = true ∧ mg x = some (.ref f)
theorem pe_ct {X : Cx} {k : Nat} {x : Str} {ps : List Str} {dvs : List V} {sp : Sp} {p pos : Pos} {e : Expr} {es : List Expr} {t : TA} (c : ClT X.prog X.w X.K X.mg X.base k x ps dvs sp) (hr : Room k X.A) (hg : Gl X x) (ha : PA X (e :: es) t) (hdb : (x == ("__debug__" : Str)) = false := by decide)
    (he : starEach (e :: es) X.env = (false, eval e X.env) :: starEach es X.env := by rfl) (hpl : (backTo pos (starEach es X.env)).any (·.1) = false := by rfl) : PE X (.Call (.Name x p) (e :: es) [] pos) (tCall sp dvs E0 t) := by
  obtain ⟨f, fd, ds, F, v, b, kp, g⟩ := c
  exact pe_call F hr hg g kp b v pass0 ha hdb he hpl
def spNeedTongue (K : PySem.W.Frag) : Sp := fun vs H Q _ => ∃ (p : Addr) (y : V), vs = [.ref p, y] ∧ (∃ dx fs, H p = some (.ins (CT K) dx fs)) ∧ Q .non H
theorem sc_need_tongue : FnScope ["value", "part"] ["value", "part"] (defScope sNeedTongue) := ⟨rfl, rfl, rfl, by decide +kernel, rfl, by decide +kernel, by decide +kernel⟩
theorem kit_self (K : PySem.W.Frag) (C : Addr) : PySem.W.kitOne K (.ref C) (.ref C) = some true := by
  unfold PySem.W.kitOne
  rw [if_pos (by simp)]
theorem ok_need_tongue (T : Tx K mg) : ClT P w K mg base 1 "need_tongue" ["value", "part"] [.str "tongue"] (spNeedTongue K) := by
  obtain ⟨fd, F⟩ := T.d_need_tongue
  obtain ⟨ds, v, b⟩ := F.binds1 (ps := ["value", "part"]) 1 0 (by decide) rfl fun _ _ _ _ _ _ _ us its h1 h2 => match us, its, h1, h2 with | [_], [_], _, _ => ⟨_, rfl, rfl⟩
  refine ⟨_, fd, ds, okD F sc_need_tongue (fun vs H Q E h => ?_) (fun cdv A outer s H vs Q E hr h => ?_), v, b, F.kp, T.g_need_tongue⟩
  · obtain ⟨p, y, rfl, _⟩ := h
    rfl
  · obtain ⟨p, y, rfl, ⟨dx, fs, hp⟩, k⟩ := h
    refine ⟨_, pss_one (ps_if (pt_not (pt_val (pe_callB call_isi (by rfl) T.f_isinstance (by decide +kernel) (pa_cons (pv 0) (pa_cons (pe_glob (v := .ref (CT K)) (by rfl) T.g_Tongue rfl) pa_nil))))) (pss_one ps_never) pss_nil), ?_⟩
    exact ⟨_, rfl, _, _, _, _, true, rfl, .own _, .base (T.tyT hp), kit_self K _, true, rfl, iteF k⟩
/-! ### Tongue.__init__ -/
def spInit (K : PySem.W.Frag) : Sp := fun vs H Q _ => ∃ (p dx l : Addr) (ns : List (List Nat)), vs = [.ref p, .ref l] ∧ H p = some (.ins (CT K) dx []) ∧ H l = some (.lst (ns.map S)) ∧ Good ns ∧
  ∀ (H' : Hp) (t : Addr), But p H H' → H' p = some (.ins (CT K) dx [("names", .ref t)]) → H' t = some (.tup (ns.map S)) → Q .non H'
theorem sc_init : FnScope ["self", "names", "each"] ["self", "names"] (defScope sInit) := ⟨rfl, rfl, rfl, by decide +kernel, rfl, by decide +kernel, by decide +kernel⟩
theorem ok_init (T : Tx K mg) : ∃ fd, FnOk P w K mg base CX0 3 (He.ma K (CT K) "__init__") fd ["self", "names"] (spInit K) ∧ Binds K fd ["self", "names"] [] := by
  obtain ⟨fd, F⟩ := T.d_init
  obtain ⟨W, cv, hW⟩ := T.words
  refine ⟨fd, okD F sc_init (fun vs H Q E h => ?_) (fun cdv A outer s H vs Q E hr h => ?_), F.bindsN fun _ _ _ _ _ _ us hl => match us, hl with | [_, _], _ => rfl⟩
  · obtain ⟨p, dx, l, ns, rfl, _⟩ := h
    rfl
  · obtain ⟨p, dx, l, ns, rfl, hp, hl, g, k⟩ := h
    have nd := sc_init.nd
    have hr1 : Room 1 _ := hr.mono (by decide)
    refine ⟨_, pss_cons (ps_if (PW.pt (pw_or (pt_not (pt_val (pe_callB call_isiT (by rfl) T.f_isinstance (by decide +kernel) (pa_cons (pv 1) (pa_cons (pe_tup (pa_cons (pe_bltn (v := .ty "list") (u := .type "list") (by rfl) T.f_list (by decide +kernel) rfl) (pa_cons (pe_bltn (v := .ty "tuple") (u := .type "tuple") (by rfl) T.f_tuple (by decide +kernel) rfl) pa_nil))) pa_nil)))))
        (pw_or1 (pt_cmpR op_ne (pe_callB call_len_seq (by rfl) T.f_len PySem.boot_len (pa_cons (pv 1) pa_nil)) (pe_callB call_len_seq (by rfl) T.f_len PySem.boot_len (pa_cons (ClX.pe_cval (pe_glob (v := .ref (CT K)) (by rfl) T.g_Tongue rfl)) pa_nil)) (nomark _))))) (pss_one ps_never) pss_nil)
      (pss_cons (ps_if (PW.pt (pw_or (pt_not (pt_val (pe_callB (cr_all rfl) (by rfl) T.f_all (by decide +kernel) (pa_cons
          (pe_lc (own := [("each", 2)]) (g := gName 2) (tt := tYes) rfl nd (pi_list (pv 1)) (blkOk_by (N := ["self", "names", "each"]) (sc := defScope sInit) (by decide +kernel)) (fun _ _ _ _ _ => pg_name (i := 2) nd rfl (Or.inl rfl)) (fun _ _ _ _ _ => pts_nil)
            (fun _ _ _ _ _ => pe_c (ok_is_short T) hr (by rfl) (pa_cons (pv 2) pa_nil))) pa_nil))))
        (pw_or1 (pt_not (pt_val (pe_c (ok_is_apart T) hr1 (by rfl) (pa_cons (pv 1) pa_nil))))))) (pss_one ps_never) pss_nil)
      (pss_one (ps_fld (pv 0) (pe_callTy call_tuple_of (by rfl) T.f_tuple (by decide +kernel) (pa_cons (pv 1) pa_nil)) rfl))), ?_⟩
    refine ⟨_, rfl, by show 2 ≤ sizeLine; decide, fun tp ntp => ?_⟩
    have s1 : Same H (upd H tp (.tup [.ty "list", .ty "tuple"])) := same_upd ntp
    have kit : PySem.W.kitAny K (.type "list") [.type "list", .type "tuple"] = some true := kitAny_cons (kit_ty (b := "list") (r := true) (by decide +kernel)) (fun z => by cases z) fun _ => rfl
    refine ⟨_, tp, _, _, [.type "list", .type "tuple"], true, rfl, upd_same, .cons (.ty _) (.cons (.ty _) .nil), .base (.lst (s1 _ _ hl)), kit, true, rfl, iteF ?_⟩
    have e8 : (ns.map S).length = 8 := by rw [List.length_map, g.l8]
    refine ⟨_, rfl, l, _, rfl, .inl (SqL.of (s1 _ _ hl)), _, _, _, _, rfl, T.read, cv, W, _, rfl, .inr (hW _), rfl, false, ?_, iteF ?_⟩
    · rw [e8]; rfl
    refine ⟨_, rfl, l, rfl, ⟨_, SqL.of (s1 _ _ hl)⟩, fun D hD => ?_⟩
    have s2 := s1.trans (same_upd (o := .lst []) hD)
    refine lc_list (K := K) (a := l) (xs := ns.map S) (fun i H' => Same H H' ∧ H' D = some (.lst ((List.replicate i true).map V.bl))) ⟨s2, upd_same⟩ (fun i H' _ ⟨s3, _⟩ => SqL.of (s3 _ _ hl)) ?_ ?_
    · rintro i x H1 hi ⟨s3, e1⟩
      rw [List.getElem?_map] at hi
      obtain ⟨a, ea, rfl⟩ := Option.map_eq_some_iff.mp hi
      have ma := List.mem_of_getElem? ea
      have i8 : i < 8 := by have := (List.getElem?_eq_some_iff.mp ea).1; rw [g.l8] at this; exact this
      refine ⟨rfl, _, rfl, a, rfl, g.pos a ma, (g.each a ma).1, (g.each a ma).2, fun H2 s4 => ⟨_, s4 _ _ e1, ?_, ?_, ?_⟩⟩
      · rw [List.length_map, List.length_replicate]; exact Nat.lt_trans i8 (by decide)
      · exact same_of_but (s1.free hD) (s3.trans s4) But.upd
      · rw [upd_same, List.replicate_succ', List.map_append]
        rfl
    · rintro H1 ⟨s3, e1⟩
      refine ⟨D, _, rfl, SqL.of e1, true, by simp, iteF ?_⟩
      refine ⟨_, rfl, l, ns, rfl, SqL.of (s3 _ _ hl), g.ap, by rw [g.l8]; decide, fun H2 s4 => ⟨true, rfl, iteF ?_⟩⟩
      have s5 := s3.trans s4
      refine ⟨_, rfl, l, _, rfl, .inl ⟨SqL.of (s5 _ _ hl), fun t ht => ?_⟩⟩
      have npt : p ≠ t := ne_of_none (s5 _ _ hp) ht
      refine ⟨_, rfl, p, CT K, dx, [], rfl, by rw [upd_ne npt]; exact s5 _ _ hp, T.cl, T.na, by show 0 < 1000; decide, ?_⟩
      refine k _ t (fun b o q n => ?_) upd_same (by rw [upd_ne npt.symm, upd_same])
      rw [upd_ne n, upd_ne (ne_of_none (s5 _ _ q) ht)]
      exact s5 _ _ q
end
end K15

set_option Elab.async false
set_option linter.all false
set_option maxRecDepth 100000
set_option maxHeartbeats 4000000
namespace K15
open PySem PySem.Spec PyProof.Rows L2
section
variable {P : Program} {w : World} {K : PySem.W.Frag} {mg : Str → Option Value} {base : Heap}
/-! ### _law_ewer -/
def spEwer (K : PySem.W.Frag) : Sp := fun vs H Q _ => ∃ (a : Addr) (ns : List Int), vs = [.ref a] ∧ SqL K H a (ns.map V.int) ∧ ns.length ≤ 63 ∧ ∀ (H' : Hp) (e c : Addr), Same H H' → H e = none → Ewer H' e c 0 → Q (.ref e) H'
theorem sc_ewer : FnScope ["_law_script", "_law_cell"] ["_law_script"] (defScope sEwer) := ⟨rfl, rfl, rfl, by decide +kernel, rfl, by decide +kernel, by decide +kernel⟩
theorem ok_ewer (T : Tx K mg) : Cl P w K mg base 1 "_law_ewer" ["_law_script"] (spEwer K) := by
  obtain ⟨fd, F⟩ := T.d_law_ewer
  refine clD F T.g_law_ewer sc_ewer (fun _ _ _ _ _ _ us hl => match us, hl with | [_], _ => rfl) (fun vs H Q E h => ?_) (fun cdv A outer s H vs Q E hr h => ?_)
  · obtain ⟨a, ns, rfl, _⟩ := h
    rfl
  · obtain ⟨a, ns, rfl, hS, hl, k⟩ := h
    have nd := sc_ewer.nd
    refine ⟨_, pss_one (ps_ret (pe_lst (pa_cons (pe_lc (own := [("_law_cell", 1)]) (g := gName 1) (tt := tYes) rfl nd (pi_list (pe_slice sl_list (pv 0) po_none (po_some pe_int))) (blkOk_by (N := ["_law_script", "_law_cell"]) (sc := defScope sEwer) (by decide +kernel))
      (fun _ _ _ _ _ => pg_name (i := 1) nd rfl (Or.inl rfl)) (fun _ _ _ _ _ => pts_nil) (fun _ _ _ _ _ => pe_callTy call_int1 (by rfl) T.f_int (by decide +kernel) (pa_cons (pv 1) pa_nil))) (pa_cons pe_int (pa_cons pe_int pa_nil))))), ?_⟩
    refine ⟨_, rfl, 60, rfl, a, _, rfl, hS, fun q nq => ?_⟩
    have cut : cutV (ns.map V.int) none (some 60) = (ns.take 60).map V.int := by
      unfold cutV
      rw [show (some (60 : Int)) = some ((60 : Nat) : Int) from rfl, HT.sIx_nat, HT.sIx_none, List.drop_zero, Nat.sub_zero, List.map_take]
      by_cases h : 60 ≤ (ns.map V.int).length
      · rw [Nat.min_eq_left h]
      · rw [Nat.min_eq_right (by omega), List.take_of_length_le (Nat.le_refl _), List.take_of_length_le (by omega)]
    rw [cut]
    have l60 : (ns.take 60).length ≤ 60 := by rw [List.length_take]; omega
    generalize ns.take 60 = ms at l60 ⊢
    have s1 : Same H (upd H q (.lst (ms.map V.int))) := same_upd nq
    refine ⟨q, rfl, ⟨_, SqL.of upd_same⟩, fun c hc => ?_⟩
    refine lc_list (K := K) (a := q) (xs := ms.map V.int) (fun i H' => Same (upd H q (.lst (ms.map V.int))) H' ∧ H' c = some (.lst ((ms.take i).map V.int))) ⟨same_upd hc, upd_same⟩ (fun i H' _ ⟨s3, _⟩ => SqL.of (s3 _ _ upd_same)) ?_ ?_
    · rintro i x H1 hi ⟨s3, e1⟩
      rw [List.getElem?_map] at hi
      obtain ⟨n, en, rfl⟩ := Option.map_eq_some_iff.mp hi
      have lt : i < 60 := by
        have h1 := (List.getElem?_eq_some_iff.mp en).1
        omega
      refine ⟨rfl, _, rfl, .inl ⟨n, rfl, _, e1, ?_, ?_, ?_⟩⟩
      · rw [List.length_map, List.length_take]
        exact Nat.lt_of_le_of_lt (Nat.le_trans (Nat.min_le_left _ _) (Nat.le_of_lt lt)) (by decide)
      · exact same_of_but hc s3 But.upd
      · rw [upd_same, List.take_add_one, en, List.map_append]
        rfl
    · rintro H1 ⟨s3, e1⟩
      refine ⟨by show 3 ≤ sizeLine; decide, fun e he => ?_⟩
      have hb : H e = none := (s1.trans s3).free he
      refine k _ e c ((s1.trans s3).trans (same_upd he)) hb ⟨0, ms, upd_same, ?_, by omega⟩
      rw [upd_ne (ne_of_none e1 he), e1, List.length_map, List.take_of_length_le (Nat.le_refl _)]
/-! ### _law_sip -/
def spSip : Sp := fun vs H Q _ => ∃ (e c : Addr) (t many : Int), vs = [.ref e, .int many] ∧ Ewer H e c t ∧ 0 ≤ t ∧ t ≤ 500 ∧ 1 ≤ many ∧ many ≤ 1000 ∧
  ∀ (v t' : Int) (H' : Hp), 0 ≤ v → v < many → t ≤ t' → t' ≤ t + 1 → But e H H' → Ewer H' e c t' → Q (.int v) H'
theorem sc_sip : FnScope ["_law_ewer_here", "_law_many", "_law_left", "_law_turn", "_law_cell", "_law_mixed"] ["_law_ewer_here", "_law_many"] (defScope sSip) := ⟨rfl, rfl, rfl, by decide +kernel, rfl, by decide +kernel, by decide +kernel⟩
theorem dAll_ints {K : PySem.W.Frag} {H : Hp} : ∀ ns : List Int, DpAll K H (ns.map V.int) (ns.map PyData.int)
  | [] => .nil
  | n :: ns => .cons (.int n) (dAll_ints ns)
theorem layAll_of : ∀ {ds : List PyData}, (∀ d ∈ ds, d.canLay0 = true) → PyData.canLayAll0 ds = true
  | [], _ => by simp [PyData.canLayAll0]
  | d :: ds, h => by simp [PyData.canLayAll0, h d List.mem_cons_self, layAll_of fun x hx => h x (List.mem_cons_of_mem _ hx)]
theorem shaped_ints (ns : List Int) : SeqAt.shaped (.list (ns.map PyData.int)) = true := by
  unfold SeqAt.shaped
  refine Bool.and_eq_true_iff.mpr ⟨?_, decide_eq_true ?_⟩
  · simp only [PyData.canLay0]
    refine layAll_of fun d hd => ?_
    obtain ⟨i, _, rfl⟩ := List.mem_map.mp hd
    simp [PyData.canLay0]
  · simp only [PyData.depth]
    have := depthAll_of (ds := ns.map PyData.int) (m := 10) fun d hd => by
      obtain ⟨i, _, rfl⟩ := List.mem_map.mp hd
      simp [PyData.depth]
    omega
theorem mod_in (a : Int) {m : Int} (h : 1 ≤ m) : 0 ≤ a % m ∧ a % m < m := ⟨Int.emod_nonneg _ (by omega), Int.emod_lt_of_pos _ (by omega)⟩
theorem mul_bound {m t : Int} (h1 : 0 ≤ m) (h2 : m < 2147483579) (h3 : 0 ≤ t) (h4 : t ≤ 500) : 0 ≤ m * (2 * t + 8513) ∧ m * (2 * t + 8513) ≤ 2147483579 * 9513 :=
  ⟨Int.mul_nonneg h1 (by omega), Int.mul_le_mul (by omega) (by omega) (by omega) (by omega)⟩
theorem sq_bound {t : Int} (h3 : 0 ≤ t) (h4 : t ≤ 500) : 0 ≤ 74507 * t * t ∧ 74507 * t * t ≤ 37253500 * 500 :=
  ⟨Int.mul_nonneg (by omega) h3, Int.mul_le_mul (by omega) h4 h3 (by omega)⟩
end
end K15

set_option Elab.async false
set_option linter.all false
set_option maxRecDepth 100000
set_option maxHeartbeats 8000000
namespace K15
open PySem PySem.Spec PyProof.Rows L2
section
variable {P : Program} {w : World} {K : PySem.W.Frag} {mg : Str → Option Value} {base : Heap}
theorem small {j : Int} (h1 : 1 ≤ j) (h2 : j ≤ 1000) : (0 : Int) < j ∧ j < 1073741824 := ⟨by omega, by omega⟩
theorem ok_sip (T : Tx K mg) : Cl P w K mg base 1 "_law_sip" ["_law_ewer_here", "_law_many"] spSip := by
  obtain ⟨fd, F⟩ := T.d_law_sip
  refine clD F T.g_law_sip sc_sip (fun _ _ _ _ _ _ us hl => match us, hl with | [_, _], _ => rfl) (fun vs H Q E h => ?_) (fun cdv A outer s H vs Q E hr h => ?_)
  · obtain ⟨e, c, t, many, rfl, _⟩ := h
    rfl
  · obtain ⟨e, c, t, many, rfl, hE, t0, t1, m1, m2, k⟩ := h
    have nce : c ≠ e := hE.ne
    obtain ⟨l, ns, he, hc, hn⟩ := id hE
    have nd := sc_sip.nd
    have pm : (0 : Int) < many := by omega
    refine ⟨_,
      pss_cons (ps_if (pt_cmpR op_gt (pe_ix ix_list (pv 0) pe_int (fun _ _ => rfl)) pe_int (nomark _))
        (pss_cons (ps_set (i := 2) nd rfl (Or.inl rfl) (pe_callTy call_int1 (by rfl) T.f_int (by decide +kernel) (pa_cons (pe_ix ix_list (pv 0) pe_int (fun _ _ => rfl)) pa_nil)))
        (pss_cons (ps_asg (pe_op op_fdiv (pv 2) (pv 1)) (pg_sub (pv 0) pe_int set_list))
        (pss_one (ps_ret (pe_op op_mod (pe_callTy call_int1 (by rfl) T.f_int (by decide +kernel) (pa_cons (pv 2) pa_nil)) (pv 1)))))) pss_nil)
      (pss_cons (ps_set (i := 3) nd rfl (Or.inl rfl) (pe_ix ix_list (pv 0) pe_int (fun _ _ => rfl)))
      (pss_cons (ps_asg (pe_op op_add (pv 3) pe_int) (pg_sub (pv 0) pe_int set_list))
      (pss_cons (ps_set (i := 4) nd rfl (Or.inl rfl) (pe_op op_add (pe_op op_mul pe_int (pv 3)) pe_int))
      (C8.pss_cut (ps_if (pt_cmpR (op_neD hr.units) (pe_ix ix_list (pv 0) pe_int (fun _ _ => rfl)) (pe_lst pa_nil) (nomark _))
        (pss_one (ps_set (i := 4) nd rfl (Or.inl rfl) (pe_ix ix_list (pe_ix ix_list (pv 0) pe_int (fun _ _ => rfl))
          (pe_op op_mod (pe_callTy call_int1 (by rfl) T.f_int (by decide +kernel) (pa_cons (pv 3) pa_nil)) (pe_callB call_len_seq (by rfl) T.f_len PySem.boot_len (pa_cons (pe_ix ix_list (pv 0) pe_int (fun _ _ => rfl)) pa_nil))) (fun _ _ => rfl)))) pss_nil)
      (C8.pss_cut (ps_if (PW.pt (pw_and (pt_cmpR op_lt (pv 3) (pe_callB call_len_seq (by rfl) T.f_len PySem.boot_len (pa_cons (pe_ix ix_list (pv 0) pe_int (fun _ _ => rfl)) pa_nil)) (nomark _))
          (pw_and1 (pt_cmpR op_ge (pe_callB call_abs (by rfl) T.f_abs (by decide +kernel) (pa_cons (pv 4) pa_nil)) (pe_op op_pow pe_int pe_int) (nomark _)))))
        (pss_cons (ps_set (i := 2) nd rfl (Or.inl rfl) (pe_op op_add (pe_op op_mul pe_int (pe_op op_sub (pe_callB call_abs (by rfl) T.f_abs (by decide +kernel) (pa_cons (pv 4) pa_nil)) (pe_op op_pow pe_int pe_int)))
            (pe_callTy call_int1 (by rfl) T.f_int (by decide +kernel) (pa_cons (pe_cmpR op_lt (pv 4) pe_int (nomark _)) pa_nil))))
        (pss_cons (ps_asg (pe_op op_fdiv (pv 2) (pv 1)) (pg_sub (pv 0) pe_int set_list))
        (pss_one (ps_ret (pe_op op_mod (pe_callTy call_int1 (by rfl) T.f_int (by decide +kernel) (pa_cons (pv 2) pa_nil)) (pv 1)))))) pss_nil)
      (pss_cons (ps_set (i := 5) nd rfl (Or.inl rfl) (pe_op op_mod (pe_callTy call_int1 (by rfl) T.f_int (by decide +kernel) (pa_cons
          (pe_op op_pow (pe_op op_add (pe_op op_add (pe_op op_mod (pe_callTy call_int1 (by rfl) T.f_int (by decide +kernel) (pa_cons (pv 4) pa_nil)) pe_int) (pe_op op_mul pe_int (pv 3))) pe_int) pe_int) pa_nil)) pe_int))
      (pss_cons (ps_set (i := 5) nd rfl (Or.inl rfl) (pe_op op_mod (pe_callTy call_int1 (by rfl) T.f_int (by decide +kernel) (pa_cons
          (pe_op op_pow (pe_op op_add (pe_op op_add (pe_op op_mul (pv 5) (pe_op op_add (pe_op op_mul pe_int (pv 3)) pe_int)) (pe_op op_mul (pe_op op_mul pe_int (pv 3)) (pv 3))) pe_int) pe_int) pa_nil)) pe_int))
      (pss_one (ps_ret (pe_op op_mod (pe_callTy call_int1 (by rfl) T.f_int (by decide +kernel) (pa_cons (pe_op op_fdiv (pv 5) pe_int) pa_nil)) (pv 1))))))))))), ?_⟩
    have a2 : atI [V.ref c, V.int t, V.int l] 2 = some (V.int l) := atI_nat (j := 2) rfl
    have a1 : atI [V.ref c, V.int t, V.int l] 1 = some (V.int t) := atI_nat (j := 1) rfl
    refine ⟨_, rfl, e, _, 2, _, rfl, rfl, SqL.of he, a2, l, 0, rfl, rfl, _, rfl, ite2 (fun _ => ?_) (fun _ => ?_)⟩
    · -- a digit of a great cell
      refine ⟨_, rfl, e, _, 2, _, rfl, rfl, SqL.of he, a2, .inl ⟨l, rfl, ?_⟩⟩
      refine ⟨_, rfl, _, rfl, l, many, rfl, rfl, small m1 m2, _, rfl, e, _, 2, 2, rfl, rfl, he, rfl, ?_⟩
      refine ⟨_, rfl, .inl ⟨l, rfl, _, rfl, l, many, rfl, rfl, pm, ?_⟩⟩
      refine k _ t _ (mod_in l m1).1 (mod_in l m1).2 (Int.le_refl _) (by omega) But.upd ⟨l / many, ns, upd_same, by rw [upd_ne nce]; exact hc, hn⟩
    refine ⟨_, rfl, e, _, 1, _, rfl, rfl, SqL.of he, a1, ?_⟩
    refine ⟨_, rfl, t, 1, rfl, rfl, _, rfl, e, _, 1, 1, rfl, rfl, he, rfl, ?_⟩
    -- behind the store of the turn
    have he1 : (upd H e (.lst ([V.ref c, V.int t, V.int l].set 1 (V.int (t + 1))))) e = some (.lst [V.ref c, V.int (t + 1), V.int l]) := upd_same
    have hc1 : (upd H e (.lst ([V.ref c, V.int t, V.int l].set 1 (V.int (t + 1))))) c = some (.lst (ns.map V.int)) := by rw [upd_ne nce]; exact hc
    have b1 : But e H (upd H e (.lst ([V.ref c, V.int t, V.int l].set 1 (V.int (t + 1))))) := But.upd
    generalize upd H e (.lst ([V.ref c, V.int t, V.int l].set 1 (V.int (t + 1)))) = H1 at he1 hc1 b1 ⊢
    have a0 : atI [V.ref c, V.int (t + 1), V.int l] 0 = some (V.ref c) := atI_nat (j := 0) rfl
    -- the cell that is mixed if there are none
    refine ⟨_, rfl, _, _, rfl, rfl, .inl ⟨by decide, by decide⟩, _, _, rfl, rfl, ?_⟩
    refine ⟨fun σ' H' => ∃ cl : Int, σ' = [some (.ref e), some (.int many), none, some (.int t), some (.int cl), none] ∧ H' e = some (.lst [V.ref c, V.int (t + 1), V.int l]) ∧ H' c = some (.lst (ns.map V.int)) ∧ But e H H', ?_, ?_⟩
    · refine ⟨_, rfl, e, _, 0, _, rfl, rfl, SqL.of he1, a0, Nat.zero_le _, fun q nq => ?_⟩
      have he2 : (upd H1 q (.lst [])) e = some (.lst [V.ref c, V.int (t + 1), V.int l]) := by rw [upd_ne (ne_of_none he1 nq)]; exact he1
      have hc2 : (upd H1 q (.lst [])) c = some (.lst (ns.map V.int)) := by rw [upd_ne (ne_of_none hc1 nq)]; exact hc1
      have b2 : But e H (upd H1 q (.lst [])) := b1.trans (.of (same_upd nq) e)
      refine ⟨.list (ns.map .int), .list [], .lst (SqL.of hc2) (dAll_ints ns), .lst (SqL.of upd_same) .nil, shaped_ints ns, shaped_ints [], _, rfl, ite2 (fun hq => ?_) (fun _ => ?_)⟩
      · have hpos : 0 < ns.length := by
          cases ns with
          | nil => exact absurd hq (by decide)
          | cons x r => exact Nat.succ_pos _
        have hl : (0 : Int) < ((ns.map V.int).length : Int) := by rw [List.length_map]; omega
        obtain ⟨g1, g2⟩ := mod_in t (m := ((ns.map V.int).length : Int)) (by omega)
        rw [List.length_map] at g2
        obtain ⟨j, ej⟩ : ∃ j : Nat, t % ((ns.map V.int).length : Int) = (j : Int) := ⟨_, (Int.toNat_of_nonneg g1).symm⟩
        have hj : j < ns.length := by rw [List.length_map] at ej; omega
        have at_j : atI (ns.map V.int) (t % ((ns.map V.int).length : Int)) = some (V.int ns[j]) := by
          rw [ej]
          exact atI_nat (by rw [List.getElem?_map, List.getElem?_eq_getElem hj]; rfl)
        refine ⟨_, rfl, e, _, 0, _, rfl, rfl, SqL.of he2, a0, _, rfl, .inl ⟨t, rfl, _, rfl, e, _, 0, _, rfl, rfl, SqL.of he2, a0, c, _, rfl, .inl (SqL.of hc2), _, _, rfl, rfl, hl, c, _, _, _, rfl, rfl, SqL.of hc2, at_j, ?_⟩⟩
        exact ⟨ns[j], rfl, he2, hc2, b2⟩
      · exact ⟨_, rfl, he2, hc2, b2⟩
    · rintro σ' H2 ⟨cl, rfl, he2, hc2, b2⟩
      have lenC : ∀ Q' : VK, Q' (.int ((ns.map V.int).length : Int)) H2 → ∃ p ys, [V.ref c] = [V.ref p] ∧ (SqL K H2 p ys ∨ SqT K H2 p ys) ∧ Q' (.int (ys.length : Int)) H2 := fun Q' q => ⟨c, _, rfl, .inl (SqL.of hc2), q⟩
      have done : ∀ (v l' : Int) (H3 : Hp), 0 ≤ v → v < many → But e H H3 → H3 e = some (.lst [V.ref c, V.int (t + 1), V.int l']) → H3 c = some (.lst (ns.map V.int)) → Q (.int v) H3 := fun v l' H3 v0 v1 b3 g1 g2 =>
        k v (t + 1) H3 v0 v1 (by omega) (Int.le_refl _) b3 ⟨l', ns, g1, g2, hn⟩
      -- the turn below the number of cells, a great cell
      refine ⟨fun σ' H' => σ' = [some (.ref e), some (.int many), none, some (.int t), some (.int cl), none] ∧ H' = H2, ?_, ?_⟩
      · refine ⟨_, rfl, _, rfl, e, _, 0, _, rfl, rfl, SqL.of he2, a0, c, _, rfl, .inl (SqL.of hc2), _, _, rfl, rfl, _, rfl, ite2 (fun _ => ?_) (fun _ => iteF ⟨rfl, rfl⟩)⟩
        refine ⟨_, rfl, _, rfl, _, _, rfl, rfl, ⟨by decide, by decide, by decide⟩, _, _, rfl, rfl, _, rfl, ite2 (fun _ => ?_) (fun _ => ⟨rfl, rfl⟩)⟩
        refine ⟨_, rfl, cl, rfl, _, _, rfl, rfl, ⟨by decide, by decide, by decide⟩, _, _, rfl, rfl, _, _, rfl, rfl, .inl ⟨by decide, by decide⟩, _, rfl, _, _, rfl, rfl, .inr ⟨_, rfl, _, _, rfl, rfl, ?_⟩⟩
        refine ⟨_, rfl, _, rfl, _, many, rfl, rfl, small m1 m2, _, rfl, e, _, 2, 2, rfl, rfl, he2, rfl, ?_⟩
        refine ⟨_, rfl, .inl ⟨_, rfl, _, rfl, _, many, rfl, rfl, pm, ?_⟩⟩
        exact done _ _ _ (mod_in _ m1).1 (mod_in _ m1).2 (b2.trans But.upd) upd_same (by rw [upd_ne nce]; exact hc2)
      · rintro σ' H3 ⟨rfl, rfl⟩
        -- mixed
        have x1 := mod_in cl (m := 2147483629) (by decide)
        refine ⟨_, rfl, .inl ⟨cl, rfl, _, _, rfl, rfl, (by decide : (0 : Int) < 2147483629), _, rfl, _, _, rfl, rfl, .inl ⟨by decide, by decide⟩, _, _, rfl, rfl, _, _, rfl, rfl, _, _, rfl, rfl, ⟨by decide, by decide, ?_⟩, .inl ⟨_, rfl, _, _, rfl, rfl, (by decide : (0 : Int) < 2147483579), ?_⟩⟩⟩
        · show (cl % 2147483629 + 74507 * t + 8513).natAbs < 2 ^ 64
          omega
        · have x2 := mod_in ((cl % 2147483629 + 74507 * t + 8513) ^ (5 : Int).toNat) (m := 2147483579) (by decide)
          have y1 := mul_bound x2.1 x2.2 t0 t1
          have y2 := sq_bound t0 t1
          refine ⟨_, rfl, _, rfl, _, _, rfl, rfl, .inl ⟨by decide, by decide⟩, _, _, rfl, rfl, _, _, rfl, rfl, .inl ⟨?_, ?_⟩, _, rfl, _, _, rfl, rfl, .inl ⟨by decide, by decide⟩, _, rfl, _, _, rfl, rfl, .inr ⟨?_, ?_⟩, _, _, rfl, rfl, _, _, rfl, rfl, _, _, rfl, rfl, ⟨by decide, by decide, ?_⟩, .inl ⟨_, rfl, _, _, rfl, rfl, (by decide : (0 : Int) < 2147483549), ?_⟩⟩
          · omega
          · omega
          · omega
          · omega
          · show ((cl % 2147483629 + 74507 * t + 8513) ^ (5 : Int).toNat % 2147483579 * (2 * t + 8513) + 74507 * t * t + 8513).natAbs < 2 ^ 64
            generalize (cl % 2147483629 + 74507 * t + 8513) ^ (5 : Int).toNat % 2147483579 * (2 * t + 8513) = a at y1 ⊢
            generalize 74507 * t * t = b at y2 ⊢
            omega
          · refine ⟨_, rfl, _, _, rfl, rfl, ⟨by decide, by decide⟩, .inl ⟨_, rfl, _, rfl, _, many, rfl, rfl, pm, ?_⟩⟩
            exact done _ _ _ (mod_in _ m1).1 (mod_in _ m1).2 b2 he2 hc2
end
end K15

set_option Elab.async false
set_option linter.all false
set_option maxRecDepth 100000
set_option maxHeartbeats 8000000
namespace K15
open PySem PySem.Spec PyProof.Rows L2
section
variable {P : Program} {w : World} {K : PySem.W.Frag} {mg : Str → Option Value} {base : Heap}
def spPick : Sp := fun vs H Q _ => ∃ (e c q : Addr) (t : Int) (xs : List V), vs = [.ref e, .ref q] ∧ q ≠ e ∧ Ewer H e c t ∧ 0 ≤ t ∧ t ≤ 500 ∧ H q = some (.lst xs) ∧ 1 ≤ xs.length ∧ xs.length ≤ 1000 ∧
  ∀ (x : V) (t' : Int) (H' : Hp), x ∈ xs → t ≤ t' → t' ≤ t + 1 → But e H H' → Ewer H' e c t' → Q x H'
theorem sc_pick : FnScope ["_law_ewer_here", "_law_some"] ["_law_ewer_here", "_law_some"] (defScope sPick) := ⟨rfl, rfl, rfl, by decide +kernel, rfl, by decide +kernel, by decide +kernel⟩
theorem at_int {α : Type} {xs : List α} {v : Int} (h0 : 0 ≤ v) (h1 : v < (xs.length : Int)) : ∃ x, xs[v.toNat]? = some x ∧ atI xs v = some x := by
  have hj : v.toNat < xs.length := by omega
  refine ⟨xs[v.toNat], List.getElem?_eq_getElem hj, ?_⟩
  have := atI_nat (xs := xs) (j := v.toNat) (List.getElem?_eq_getElem hj)
  rwa [Int.toNat_of_nonneg h0] at this
theorem ok_pick (T : Tx K mg) : Cl P w K mg base 2 "_law_pick" ["_law_ewer_here", "_law_some"] spPick := by
  obtain ⟨fd, F⟩ := T.d_law_pick
  refine clD F T.g_law_pick sc_pick (fun _ _ _ _ _ _ us hl => match us, hl with | [_, _], _ => rfl) (fun vs H Q E h => ?_) (fun cdv A outer s H vs Q E hr h => ?_)
  · obtain ⟨e, c, q, t, xs, rfl, _⟩ := h
    rfl
  · obtain ⟨e, c, q, t, xs, rfl, ne, hE, t0, t1, hq, l1, l2, k⟩ := h
    refine ⟨_, pss_one (ps_ret (pe_ix ix_list (pv 1) (pe_c (ok_sip T) hr (by rfl) (pa_cons (pv 0) (pa_cons (pe_callB call_len_seq (by rfl) T.f_len PySem.boot_len (pa_cons (pv 1) pa_nil)) pa_nil))) (fun _ _ => rfl))), ?_⟩
    refine ⟨_, rfl, _, rfl, _, rfl, q, _, rfl, .inl (SqL.of hq), e, c, t, _, rfl, hE, t0, t1, by omega, by omega, fun v t' H' v0 v1 a b bu hE' => ?_⟩
    obtain ⟨x, ex, ax⟩ := at_int v0 v1
    exact ⟨q, xs, v, x, rfl, rfl, SqL.of (bu _ _ hq ne), ax, k x t' H' (List.mem_of_getElem? ex) a b bu hE'⟩
end
end K15

set_option Elab.async false
set_option linter.all false
set_option maxRecDepth 100000
set_option maxHeartbeats 8000000
namespace K15
open PySem PySem.Spec PyProof.Rows L2
theorem But.free {e : Addr} {H H' : Hp} {p : Addr} {o : HO} (b : But e H H') (he : H' e = some o) (h : H' p = none) : H p = none := by
  cases q : H p with
  | none => rfl
  | some u =>
    by_cases e1 : p = e
    · rw [e1, he] at h; cases h
    · rw [b _ _ q e1] at h; cases h
theorem Ewer.apart {H : Hp} {e c p : Addr} {t : Int} {ns : List (List Nat)} (h : Ewer H e c t) (hp : H p = some (.lst (ns.map S))) : p ≠ e := by
  obtain ⟨l, ms, h1, h2, _⟩ := h
  refine ne_of hp h1 fun q => ?_
  have q' := HO.lst.inj q
  cases ns with
  | nil => cases q'
  | cons x r => exact absurd (List.cons.inj q').1 (by intro z; cases z)
/-- the heap of a def that has an ewer: all that stood stands, the ewer at its turn -/
structure En (H : Hp) (e c : Addr) (t : Int) (H' : Hp) : Prop where
  bu : But e H H'
  ew : Ewer H' e c t
theorem En.same {H H' H2 : Hp} {e c : Addr} {t : Int} (h : En H e c t H') (s : Same H' H2) : En H e c t H2 := ⟨h.bu.trans (.of s e), h.ew.same s⟩
theorem En.sip {H H' H2 : Hp} {e c : Addr} {t t2 : Int} (h : En H e c t H') (s : But e H' H2) (w : Ewer H2 e c t2) : En H e c t2 H2 := ⟨h.bu.trans s, w⟩
theorem En.new {H H' : Hp} {e c p : Addr} {t : Int} (h : En H e c t H') (n : H' p = none) : H p = none := by
  obtain ⟨l, ms, h1, h2, _⟩ := h.ew
  exact h.bu.free h1 n
/-- a thing that is no part of what stood is rewritten -/
theorem En.upd {H H' : Hp} {e c p : Addr} {t : Int} {o : HO} (h : En H e c t H') (n : H p = none) (ne : p ≠ e) (nc : p ≠ c) : En H e c t (upd H' p o) := by
  obtain ⟨l, ms, h1, h2, h3⟩ := h.ew
  exact ⟨fun b u q nb => by rw [upd_ne (ne_of_none q n)]; exact h.bu b u q nb, l, ms, by rw [upd_ne ne.symm]; exact h1, by rw [upd_ne nc.symm]; exact h2, h3⟩
theorem Ewer.cells {H : Hp} {e c p : Addr} {t : Int} {ns : List (List Nat)} (h : Ewer H e c t) (hp : H p = some (.lst (ns.map S))) (h0 : ns ≠ []) : p ≠ c := by
  obtain ⟨l, ms, h1, h2, _⟩ := h
  refine ne_of hp h2 fun q => ?_
  have q' := HO.lst.inj q
  cases ns with
  | nil => exact h0 rfl
  | cons x r =>
    cases ms with
    | nil => cases q'
    | cons y s => exact absurd (List.cons.inj q').1 (by intro z; cases z)
theorem dAll_texts {K : PySem.W.Frag} {H : Hp} : ∀ ns : List (List Nat), DpAll K H (ns.map S) (ns.map fun l => PyData.str (mk l))
  | [] => .nil
  | n :: ns => .cons (.str _) (dAll_texts ns)
theorem bin_strOk {l : List Nat} (h : Bin l) : (mk l).cps.all (· < 0x110000) = true := by
  show (l.toArray).all (fun c => decide (c < 0x110000)) = true
  rw [List.all_toArray, List.all_eq_true]
  intro c hc
  rcases h c hc with e | e <;> rw [e] <;> decide
theorem shaped_texts {ns : List (List Nat)} (h : ∀ a ∈ ns, Bin a) : SeqAt.shaped (.list (ns.map fun l => PyData.str (mk l))) = true := by
  unfold SeqAt.shaped
  refine Bool.and_eq_true_iff.mpr ⟨?_, decide_eq_true ?_⟩
  · simp only [PyData.canLay0]
    refine layAll_of fun d hd => ?_
    obtain ⟨i, hi, rfl⟩ := List.mem_map.mp hd
    simp only [PyData.canLay0]
    exact bin_strOk (h i hi)
  · simp only [PyData.depth]
    have := depthAll_of (ds := ns.map fun l => PyData.str (mk l)) (m := 10) fun d hd => by
      obtain ⟨i, _, rfl⟩ := List.mem_map.mp hd
      simp [PyData.depth]
    omega
theorem filter_take {α : Type} {xs : List α} {i : Nat} {x : α} (φ : α → Bool) (h : xs[i]? = some x) : (xs.take (i + 1)).filter φ = (xs.take i).filter φ ++ if φ x = true then [x] else [] := by
  rw [List.take_add_one, h, List.filter_append]
  congr 1
  by_cases q : φ x = true
  · simp [q]
  · simp [q]
theorem map_take {α β : Type} {xs : List α} {i : Nat} {x : α} (f : α → β) (h : xs[i]? = some x) : (xs.take (i + 1)).map f = (xs.take i).map f ++ [f x] := by
  rw [List.take_add_one, h, List.map_append]
  rfl
theorem len_take {α β : Type} {xs : List α} {i : Nat} {x : α} (φ : α → Bool) (f : α → β) (h : xs[i]? = some x) {n : Nat} (hn : xs.length ≤ n) (hs : n ≤ 100000) : (((xs.take i).filter φ).map f).length < sizeLine := by
  have e : sizeLine = 16777216 := sizeLine_eq
  have h1 := List.length_filter_le φ (xs.take i)
  rw [List.length_take] at h1
  rw [List.length_map]
  omega
theorem take_all {α : Type} (xs : List α) : xs.take xs.length = xs := List.take_of_length_le (Nat.le_refl _)
theorem seqIx {v : Int} {n : Nat} (h0 : 0 ≤ v) (h1 : v < (n : Int)) : seqIndex? v n = some v.toNat := by
  have h : ixN n v = some v.toNat := by
    unfold ixN
    rw [if_pos h0, if_pos h1]
  exact (ixN_seq h).1
theorem erase_perm {α : Type} : ∀ {xs : List α} {i : Nat} {x : α}, xs[i]? = some x → (x :: xs.eraseIdx i).Perm xs
  | [], _, _, h => by cases h
  | y :: ys, 0, x, h => by
    rw [← Option.some.inj (show some y = some x from h)]
    exact .refl _
  | y :: ys, i + 1, x, h => by
    have ih := erase_perm (xs := ys) (i := i) h
    exact (List.Perm.swap y x _).trans (ih.cons y)
theorem eraseIdx_map' {α β : Type} (f : α → β) : ∀ (xs : List α) (i : Nat), (xs.map f).eraseIdx i = (xs.eraseIdx i).map f
  | [], _ => rfl
  | _ :: _, 0 => rfl
  | x :: xs, i + 1 => by
    show f x :: (xs.map f).eraseIdx i = f x :: (xs.eraseIdx i).map f
    rw [eraseIdx_map' f xs i]
theorem bne_dec (a b : List Nat) : (!decide (S a = S b)) = (a != b) := by
  rw [S_dec]
  by_cases h : a = b
  · subst h; simp
  · simp [h]
theorem eqv_nil (ds : List PyData) : PyData.eqv (.list ds) (.list []) = ds.isEmpty := by
  cases ds with
  | nil => simp [PyData.eqv, PyData.eqvAll]
  | cons x r => simp [PyData.eqv, PyData.eqvAll]
theorem pre_dec (o hd : List Nat) : decide (S (o.take hd.length) = S hd) = (o.take hd.length == hd) := by
  rw [S_dec]
  by_cases h : o.take hd.length = hd
  · rw [decide_eq_true h, h]; simp
  · rw [decide_eq_false h]; simp [h]
end K15

set_option Elab.async false
set_option linter.all false
set_option maxRecDepth 100000
set_option maxHeartbeats 8000000
namespace K15
open PySem PySem.Spec PyProof.Rows L2
section
variable {P : Program} {w : World} {K : PySem.W.Frag} {mg : Str → Option Value} {base : Heap}
def spNames : Sp := fun vs H Q _ => ∃ (e c : Addr) (t : Int), vs = [.ref e] ∧ Ewer H e c t ∧ 0 ≤ t ∧ t ≤ 100 ∧
  ∀ (ns : List (List Nat)) (f : Addr) (t' : Int) (H' : Hp), Good ns → H f = none → H' f = some (.lst (ns.map S)) → En H e c t' H' → t ≤ t' → t' ≤ t + 60 → Q (.ref f) H'
abbrev Nn : List Str := ["_law_ewer_here", "_law_names_here", "_law_found", "_law_able", "_law_name", "_law_turn", "_law_sign", "_law_head", "_law_other"]
theorem sc_names : FnScope Nn ["_law_ewer_here"] (defScope sNames) := ⟨rfl, rfl, rfl, by decide +kernel, rfl, by decide +kernel, by decide +kernel⟩
/-- the names stand at p, nothing is at f yet -/
structure Nm (H : Hp) (e c f p : Addr) (t : Int) (ns : List (List Nat)) (fs : List (List Nat)) (H' : Hp) : Prop where
  en : En H e c t H'
  np : H p = none
  nf : H f = none
  pf : p ≠ f
  hp : H' p = some (.lst (ns.map S))
  hf : H' f = some (.lst (fs.map S))
  fc : f ≠ c
  pc : p ≠ c
theorem iteB {b : Bool} {A B : Prop} (h1 : b = true → A) (h2 : b = false → B) : if b = true then A else B := by
  cases b with
  | true => exact h1 rfl
  | false => exact h2 rfl
theorem Nm.same {H H' H2 : Hp} {e c f p : Addr} {t : Int} {ns fs : List (List Nat)} (N : Nm H e c f p t ns fs H') (s : Same H' H2) : Nm H e c f p t ns fs H2 :=
  ⟨N.en.same s, N.np, N.nf, N.pf, s _ _ N.hp, s _ _ N.hf, N.fc, N.pc⟩
theorem Nm.sip {H H' H2 : Hp} {e c f p : Addr} {t t2 : Int} {ns fs : List (List Nat)} (N : Nm H e c f p t ns fs H') (b : But e H' H2) (w : Ewer H2 e c t2) : Nm H e c f p t2 ns fs H2 :=
  ⟨N.en.sip b w, N.np, N.nf, N.pf, b _ _ N.hp (N.en.ew.apart N.hp), b _ _ N.hf (N.en.ew.apart N.hf), N.fc, N.pc⟩
theorem Nm.move {H H' : Hp} {e c f p p2 : Addr} {t : Int} {ns ns2 fs : List (List Nat)} (N : Nm H e c f p t ns fs H') (h : H' p2 = none) : Nm H e c f p2 t ns2 fs (upd H' p2 (.lst (ns2.map S))) := by
  have s : Same H' (upd H' p2 (.lst (ns2.map S))) := same_upd h
  obtain ⟨l, ms, h1, h2, _⟩ := id N.en.ew
  exact ⟨N.en.same s, N.en.new h, N.nf, (ne_of_none N.hf h).symm, upd_same, s _ _ N.hf, N.fc, (ne_of_none h2 h).symm⟩
theorem str_nil : V.str ("" : Str) = S [] := by decide +kernel
theorem str_zero (l : List Nat) : V.str (mk l ++ ("0" : Str)) = S (l ++ [48]) := by
  rw [show ("0" : Str) = mk [48] by decide +kernel, mk_app]
theorem str_one (l : List Nat) : V.str (mk l ++ ("1" : Str)) = S (l ++ [49]) := by
  rw [show ("1" : Str) = mk [49] by decide +kernel, mk_app]
theorem cut_pre (a hd : List Nat) : decide (V.str (cutS (mk a) none (some ((mk hd).length : Int))) = S hd) = (a.take hd.length == hd) := by
  rw [cut_to, mk_len]
  exact pre_dec a hd
theorem ins_yes {a hd : List Nat} {cc : Nat} (h : (a.take hd.length == hd) = true) : V.str (mk hd ++ (⟨#[cc]⟩ : Str) ++ cutS (mk a) (some ((mk hd).length : Int)) none) = S (insAt hd cc a) := by
  rw [cut_from, mk_len, show (⟨#[cc]⟩ : Str) = mk [cc] from rfl, mk_app, mk_app]
  unfold insAt
  rw [if_pos (by simpa using h)]
theorem ins_no {a hd : List Nat} {cc : Nat} (h : (a.take hd.length == hd) = false) : insAt hd cc a = a := by
  unfold insAt
  rw [if_neg (by simpa using h)]
theorem lenS {a : List Nat} {n : Nat} (h : a.length ≤ n) (hn : n ≤ 1000) : (mk a).length ≤ sizeLine := by
  have e : sizeLine = 16777216 := sizeLine_eq
  rw [mk_len]
  omega
def W1 (H : Hp) (e c f : Addr) (t : Int) (m : Nat) (σ : L2.St) (H' : Hp) : Prop := ∃ (p : Addr) (ns : List (List Nat)) (t' : Int) (a3 a4 : Option V), σ = [some (.ref e), some (.ref p), some (.ref f), a3, a4, none, none, none, none] ∧ Nm H e c f p t' ns [] H' ∧
  m + ns.length = 8 ∧ 1 ≤ ns.length ∧ Apt ns ∧ (∀ a ∈ ns, a.length + 1 ≤ ns.length ∧ Bin a) ∧ t ≤ t' ∧ t' + (m : Int) ≤ t + 7
def M2 (H : Hp) (e c f : Addr) (t b : Int) (σ : L2.St) (H' : Hp) : Prop := ∃ (p : Addr) (ns : List (List Nat)) (t' : Int) (a3 a4 a5 a6 a7 : Option V), σ = [some (.ref e), some (.ref p), some (.ref f), a3, a4, a5, a6, a7, none] ∧ Nm H e c f p t' ns [] H' ∧
  ns.length = 8 ∧ Apt ns ∧ (∀ a ∈ ns, a.length ≤ 8 ∧ Bin a) ∧ t ≤ t' ∧ t' ≤ t + b
def W3 (H : Hp) (e c f p : Addr) (t : Int) (ns0 : List (List Nat)) (a3 a4 a5 a6 a7 : Option V) (m : Nat) (σ : L2.St) (H' : Hp) : Prop := ∃ (ns fs : List (List Nat)) (t' : Int), σ = [some (.ref e), some (.ref p), some (.ref f), a3, a4, a5, a6, a7, none] ∧ Nm H e c f p t' ns fs H' ∧
  ns.length = m ∧ (fs ++ ns).Perm ns0 ∧ t ≤ t' ∧ t' + (m : Int) ≤ t + 60
theorem ok_names (T : Tx K mg) : Cl P w K mg base 3 "_law_names" ["_law_ewer_here"] spNames := by
  obtain ⟨fd, F⟩ := T.d_law_names
  refine clD F T.g_law_names sc_names (fun _ _ _ _ _ _ us hl => match us, hl with | [_], _ => rfl) (fun vs H Q E h => ?_) (fun cdv A outer s H vs Q E hr h => ?_)
  · obtain ⟨e, c, t, rfl, _⟩ := h
    rfl
  · obtain ⟨e, c, t, rfl, hE, t0, t1, k⟩ := h
    have nd := sc_names.nd
    have hr1 : Room 1 _ := hr.mono (by decide)
    refine ⟨_,
      pss_cons (ps_par (by rfl) nd (i := 1) (j := 2) rfl rfl (by decide) rfl rfl (pa_cons (pe_lst (pa_cons pe_str pa_nil)) (pa_cons (pe_lst pa_nil) pa_nil)) (by rfl))
      (C8.pss_cut (ps_while PassesOwn.never (pt_cmpR op_lt (pe_callB call_len_seq (by rfl) T.f_len PySem.boot_len (pa_cons (pv 1) pa_nil)) pe_int (nomark _))
        (pss_cons (ps_setLc (i := 3) (own := [("_law_name", 4)]) (g := gName 4) (by rfl) nd rfl rfl (sw_true rfl rfl rfl (by decide +kernel)) (pi_list (pv 1)) (blkOk_by (N := Nn) (sc := defScope sNames) (by decide +kernel))
            (fun _ _ _ _ _ => pg_name (i := 4) nd rfl (Or.inl rfl)) (fun _ _ _ _ _ => pts_one (pt_cmpR op_lt (pe_callB call_len_str (by rfl) T.f_len PySem.boot_len (pa_cons (pv 4) pa_nil)) pe_int (nomark _))) (fun _ _ _ _ _ => pv 4))
        (pss_cons (ps_set (i := 4) nd rfl (Or.inr rfl) (pe_ix ix_list (pv 3) (pe_c (ok_sip T) hr1 (by rfl) (pa_cons (pv 0) (pa_cons (pe_callB call_len_seq (by rfl) T.f_len PySem.boot_len (pa_cons (pv 3) pa_nil)) pa_nil))) (fun _ _ => rfl)))
        (pss_one (ps_set (i := 1) nd rfl (Or.inl rfl) (pe_op op_cat
          (pe_lc (own := [("_law_other", 8)]) (g := gName 8) rfl nd (pi_list (pv 1)) (blkOk_by (N := Nn) (sc := defScope sNames) (by decide +kernel)) (fun _ _ _ _ _ => pg_name (i := 8) nd rfl (Or.inl rfl))
            (fun _ _ _ _ _ => pts_one (pt_cmpR op_ne (pv 8) (pv 4) (nomark _))) (fun _ _ _ _ _ => pv 8))
          (pe_lst (pa_cons (pe_op op_add_str (pv 4) pe_str) (pa_cons (pe_op op_add_str (pv 4) pe_str) pa_nil)))))))))
      (C8.pss_cut (ps_for PassesOwn.never rfl (pi_range1 (by rfl) T.f_range (pa_cons (pe_c (ok_pick T) hr (by rfl) (pa_cons (pv 0) (pa_cons (pe_lst (pa_cons pe_int (pa_cons pe_int (pa_cons pe_int (pa_cons pe_int (pa_cons pe_int pa_nil)))))) pa_nil))) pa_nil)) (pg_name (i := 5) nd rfl (Or.inl rfl))
        (pss_cons (ps_asg (pe_tup (pa_cons (pe_ix ix_list (pv 1) (pe_c (ok_sip T) hr1 (by rfl) (pa_cons (pv 0) (pa_cons pe_int pa_nil))) (fun _ _ => rfl)) (pa_cons (pe_ix ix_str pe_str (pe_c (ok_sip T) hr1 (by rfl) (pa_cons (pv 0) (pa_cons pe_int pa_nil))) (fun _ _ => rfl)) pa_nil)))
            (pg_tup rfl (pgs_cons (pg_name (i := 4) nd rfl (Or.inr rfl)) (pgs_cons (pg_name (i := 6) nd rfl (Or.inr rfl)) pgs_nil))))
        (pss_cons (ps_set (i := 7) nd rfl (Or.inr rfl) (pe_slice sl_str (pv 4) po_none (po_some (pe_c (ok_sip T) hr1 (by rfl) (pa_cons (pv 0) (pa_cons (pe_op op_add (pe_callB call_len_str (by rfl) T.f_len PySem.boot_len (pa_cons (pv 4) pa_nil)) pe_int) pa_nil))))))
        (pss_one (ps_if (pt_cmpR op_lt (pe_callB (cr_max rfl) (by rfl) T.f_max (by decide +kernel) (pa_cons
            (pe_lc (own := [("_law_other", 8)]) (g := gName 8) rfl nd (pi_list (pv 1)) (blkOk_by (N := Nn) (sc := defScope sNames) (by decide +kernel)) (fun _ _ _ _ _ => pg_name (i := 8) nd rfl (Or.inl rfl))
              (fun _ _ _ _ _ => pts_one (pt_cmpR op_eq (pe_slice sl_str (pv 8) po_none (po_some (pe_callB call_len_str (by rfl) T.f_len PySem.boot_len (pa_cons (pv 7) pa_nil)))) (pv 7) (nomark _)))
              (fun _ _ _ _ _ => pe_callB call_len_str (by rfl) T.f_len PySem.boot_len (pa_cons (pv 8) pa_nil))) pa_nil)) pe_int (nomark _))
          (pss_one (ps_setLc (i := 1) (own := [("_law_other", 8)]) (g := gName 8) (by rfl) nd rfl rfl (sw_true rfl rfl rfl (by decide +kernel)) (pi_list (pv 1)) (blkOk_by (N := Nn) (sc := defScope sNames) (by decide +kernel))
            (fun _ _ _ _ _ => pg_name (i := 8) nd rfl (Or.inl rfl)) (fun _ _ _ _ _ => pts_nil)
            (fun _ _ _ _ _ => pe_ifExp (pt_cmpR op_eq (pe_slice sl_str (pv 8) po_none (po_some (pe_callB call_len_str (by rfl) T.f_len PySem.boot_len (pa_cons (pv 7) pa_nil)))) (pv 7) (nomark _))
              (pe_op op_add_str (pe_op op_add_str (pv 7) (pv 6)) (pe_slice sl_str (pv 8) (po_some (pe_callB call_len_str (by rfl) T.f_len PySem.boot_len (pa_cons (pv 7) pa_nil))) po_none)) (pv 8)))) pss_nil)))))
      (C8.pss_cut (ps_while PassesOwn.never (pt_cmpR (op_neD hr.units) (pv 1) (pe_lst pa_nil) (nomark _))
        (pss_one (ps_expr (pe_bm PySem.F.plainAttrs_list PySem.F.slot_list_append PySem.F.type_list_append mt_append (pv 2) (pa_cons (pe_bm PySem.F.plainAttrs_list PySem.F.slot_list_pop PySem.F.type_list_pop mt_popAt (pv 1) (pa_cons
          (pe_c (ok_sip T) hr1 (by rfl) (pa_cons (pv 0) (pa_cons (pe_callB call_len_seq (by rfl) T.f_len PySem.boot_len (pa_cons (pv 1) pa_nil)) pa_nil))) pa_nil)) pa_nil)))))
      (pss_one (ps_ret (pv 2)))))), ?_⟩
    refine ⟨by show 1 ≤ sizeLine; decide, fun p hp => ⟨Nat.zero_le _, fun f hf => ⟨_, _, rfl, M2 H e c f t 7, ?_, ?_⟩⟩⟩
    · -- the first loop
      have hp0 : H p = none := hp
      have hf0 : H f = none := (same_upd hp0).free hf
      obtain ⟨l, ms, h1, h2, _⟩ := id hE
      have N0 : Nm H e c f p t [[]] [] (upd (upd H p (.lst [V.str ""])) f (.lst [])) := by
        have s1 : Same H (upd H p (.lst [V.str ""])) := same_upd hp0
        have s2 : Same (upd H p (.lst [V.str ""])) (upd (upd H p (.lst [V.str ""])) f (.lst [])) := same_upd hf
        exact ⟨En.same (En.same ⟨.of (fun _ _ z => z) e, hE⟩ s1) s2, hp0, hf0, ne_of_none upd_same hf, s2 _ _ (by rw [upd_same, str_nil]; rfl), upd_same, (ne_of_none h2 hf0).symm, (ne_of_none h2 hp0).symm⟩
      refine ⟨W1 H e c f t, ⟨7, p, [[]], t, none, none, rfl, N0, rfl, Nat.le_refl _, apt_one, ?_, Int.le_refl _, Int.le_refl _⟩, ?_⟩
      · intro a ha
        rw [List.mem_singleton.mp ha]
        exact ⟨Nat.le_refl _, fun _ z => (nomatch z)⟩
      · rintro m σ H1 ⟨p, ns, t', a3, a4, rfl, N, hm, h1, ap, ea, u0, u1⟩
        refine ⟨_, rfl, p, _, rfl, .inl (SqL.of N.hp), _, 8, rfl, rfl, _, rfl, iteB (fun hb => ?_) (fun hb => ?_)⟩
        · have h8 : ns.length < 8 := by have := of_decide_eq_true hb; rw [List.length_map] at this; omega
          refine ⟨fun σ' H' => ∃ m', m' < m ∧ W1 H e c f t m' σ' H', fun _ _ z => z, ?_⟩
          refine ⟨_, rfl, p, rfl, ⟨_, SqL.of N.hp⟩, fun D hD => ?_⟩
          have pD : p ≠ D := ne_of_none N.hp hD
          refine lc_list (K := K) (a := p) (xs := ns.map S) (fun i H2 => H2 = upd H1 D (.lst ((ns.take i).map S))) rfl (fun i H2 _ z => by rw [z]; exact SqL.of (by rw [upd_ne pD]; exact N.hp)) ?_ ?_
          · rintro i x H2 hi rfl
            rw [List.getElem?_map] at hi
            obtain ⟨a, hia, rfl⟩ := Option.map_eq_some_iff.mp hi
            have la := (ea a (List.mem_of_getElem? hia)).1
            refine ⟨rfl, _, rfl, mk a, rfl, lenS (n := 8) (by omega) (by decide), _, 8, rfl, rfl, _, rfl, iteB (fun _ => ?_) (fun z => ?_)⟩
            · refine ⟨_, rfl, _, upd_same, ?_, ?_⟩
              · have e : sizeLine = 16777216 := sizeLine_eq
                rw [List.length_map, List.length_take]; omega
              · rw [upd_upd, map_take S hia]
            · exact absurd (of_decide_eq_false z) (by rw [mk_len]; omega)
          · rintro H2 rfl
            rw [List.length_map, take_all]
            have N1 := N.same (same_upd (o := .lst (ns.map S)) hD)
            refine ⟨_, rfl, _, rfl, _, rfl, D, _, rfl, .inl (SqL.of upd_same), e, c, t', _, rfl, N1.en.ew, by omega, by omega, by rw [List.length_map]; omega, by rw [List.length_map]; omega, fun v t2 H3 v0 v1 q0 q1 bu ew3 => ?_⟩
            rw [List.length_map] at v1
            obtain ⟨x, ex, ax⟩ := at_int (xs := ns.map S) v0 (by rw [List.length_map]; exact v1)
            rw [List.getElem?_map] at ex
            obtain ⟨nm, enm, rfl⟩ := Option.map_eq_some_iff.mp ex
            have mnm : nm ∈ ns := List.mem_of_getElem? enm
            have lnm := (ea nm mnm).1
            have De : D ≠ e := by
              obtain ⟨l, ms, g1, g2, _⟩ := id N.en.ew
              exact (ne_of_none g1 hD).symm
            have N2 := N1.sip bu ew3
            refine ⟨D, _, v, S nm, rfl, rfl, SqL.of (bu _ _ upd_same De), ax, ?_⟩
            -- the next names
            refine ⟨_, rfl, p, rfl, ⟨_, SqL.of N2.hp⟩, fun D2 hD2 => ?_⟩
            have pD2 : p ≠ D2 := ne_of_none N2.hp hD2
            refine lc_list (K := K) (a := p) (xs := ns.map S) (fun i H2 => H2 = upd H3 D2 (.lst (((ns.take i).filter (fun o => o != nm)).map S))) rfl (fun i H2 _ z => by rw [z]; exact SqL.of (by rw [upd_ne pD2]; exact N2.hp)) ?_ ?_
            · rintro i x H2 hi rfl
              rw [List.getElem?_map] at hi
              obtain ⟨a, hia, rfl⟩ := Option.map_eq_some_iff.mp hi
              refine ⟨rfl, _, rfl, _, rfl, rfl, _, rfl, iteB (fun hb => ?_) (fun hb => ?_)⟩
              · rw [bne_dec] at hb
                refine ⟨_, rfl, _, upd_same, len_take _ _ hia (Nat.le_of_lt h8) (by decide), ?_⟩
                rw [upd_upd, filter_take _ hia, if_pos hb, List.map_append]
                rfl
              · rw [bne_dec] at hb
                rw [filter_take _ hia, if_neg (by rw [hb]; decide), List.append_nil]
            · rintro H4 rfl
              rw [List.length_map, take_all]
              have N3 := N2.same (same_upd (o := .lst ((ns.filter (fun o => o != nm)).map S)) hD2)
              have l1 : (mk nm).length + ("0" : Str).length ≤ sizeLine := by
                have e : sizeLine = 16777216 := sizeLine_eq
                have e1 : ("0" : Str).length = 1 := by decide +kernel
                rw [mk_len, e1]; omega
              have l2 : (mk nm).length + ("1" : Str).length ≤ sizeLine := by
                have e : sizeLine = 16777216 := sizeLine_eq
                have e1 : ("1" : Str).length = 1 := by decide +kernel
                rw [mk_len, e1]; omega
              refine ⟨_, rfl, mk nm, _, rfl, rfl, l1, _, rfl, mk nm, _, rfl, rfl, l2, by show 2 ≤ sizeLine; decide, fun L hL => ?_⟩
              have N4 := N3.same (same_upd (o := .lst [V.str (mk nm ++ "0"), V.str (mk nm ++ "1")]) hL)
              have D2L : D2 ≠ L := ne_of_none upd_same hL
              refine ⟨D2, L, _, _, rfl, rfl, by rw [upd_ne D2L, upd_same], upd_same, ?_, fun p2 hp2 => ?_⟩
              · have e : sizeLine = 16777216 := sizeLine_eq
                have := List.length_filter_le (fun o => o != nm) ns
                rw [List.length_map]
                show _ + 2 ≤ _
                omega
              · have eq : (ns.filter (fun o => o != nm)).map S ++ [V.str (mk nm ++ "0"), V.str (mk nm ++ "1")] = (splitAt1 ns nm).map S := by
                  rw [str_zero, str_one]
                  unfold splitAt1
                  rw [List.map_append]
                  rfl
                rw [eq]
                have sl := split_len ap.1 mnm
                refine ⟨m - 1, by omega, p2, splitAt1 ns nm, t2, _, _, rfl, N4.move hp2, by omega, by omega, apt_split ap mnm, ?_, by omega, by omega⟩
                have := split_all (k := ns.length - 1) mnm (fun a ha => ⟨by have := (ea a ha).1; omega, (ea a ha).2⟩)
                intro a ha
                have q := this a ha
                exact ⟨by omega, q.2⟩
        · have h8 : ns.length = 8 := by have := of_decide_eq_false hb; rw [List.length_map] at this; omega
          exact ⟨p, ns, t', a3, a4, none, none, none, rfl, N, h8, ap, fun a ha => ⟨by have := (ea a ha).1; omega, (ea a ha).2⟩, u0, by omega⟩
    · rintro σ1 H1 ⟨p, ns, t', a3, a4, a5, a6, a7, rfl, N, h8, ap, ea, u0, u1⟩
      refine ⟨M2 H e c f t 30, ?_, ?_⟩
      · -- the second loop
        refine ⟨_, rfl, by show 5 ≤ sizeLine; decide, fun q hq => ?_⟩
        have N1 := N.same (same_upd (o := .lst [V.int 0, V.int 0, V.int 1, V.int 3, V.int 6]) hq)
        have qe : q ≠ e := by
          obtain ⟨l, ms, g1, g2, _⟩ := id N.en.ew
          exact (ne_of_none g1 hq).symm
        refine ⟨e, c, q, t', _, rfl, qe, N1.en.ew, by omega, by omega, upd_same, by decide, by decide, fun x t2 H2 hx q0 q1 bu ew2 => ?_⟩
        have N2 := N1.sip bu ew2
        obtain ⟨j, rfl, j0, j6⟩ : ∃ j : Int, x = V.int j ∧ 0 ≤ j ∧ j ≤ 6 := by
          simp only [List.mem_cons, List.not_mem_nil, or_false] at hx
          rcases hx with h | h | h | h | h
          · exact ⟨_, h, by decide, by decide⟩
          · exact ⟨_, h, by decide, by decide⟩
          · exact ⟨_, h, by decide, by decide⟩
          · exact ⟨_, h, by decide, by decide⟩
          · exact ⟨_, h, by decide, by decide⟩
        refine ⟨j, rfl, by omega, by omega, ?_⟩
        refine for_range (fun i σ' H' => M2 H e c f t (8 + 3 * (i : Int)) σ' H') ⟨p, ns, t2, a3, a4, a5, a6, a7, rfl, N2, h8, ap, ea, by omega, by omega⟩ ?_ ?_
        · rintro i σ H3 hi ⟨p, ns, t', a3, a4, a5, a6, a7, rfl, N, h8, ap, ea, u0, u1⟩
          have b1 : t' ≤ t + 26 := by omega
          refine ⟨_, rfl, _, rfl, e, c, t', 8, rfl, N.en.ew, by omega, by omega, by decide, by decide, fun v t2 H4 v0 v1 q0 q1 bu ew4 => ?_⟩
          have N2 := N.sip bu ew4
          obtain ⟨x, ex, ax⟩ := at_int (xs := ns.map S) v0 (by rw [List.length_map, h8]; exact v1)
          rw [List.getElem?_map] at ex
          obtain ⟨nm, enm, rfl⟩ := Option.map_eq_some_iff.mp ex
          have mnm : nm ∈ ns := List.mem_of_getElem? enm
          have lnm := (ea nm mnm).1
          refine ⟨p, _, v, S nm, rfl, rfl, SqL.of N2.hp, ax, ?_⟩
          refine ⟨_, rfl, e, c, t2, 2, rfl, N2.en.ew, by omega, by omega, by decide, by decide, fun v2 t3 H5 w0 w1 q2 q3 bu5 ew5 => ?_⟩
          have N3 := N2.sip bu5 ew5
          obtain ⟨cc, hcc, acc⟩ : ∃ cc, (cc = 48 ∨ cc = 49) ∧ atI ("01" : Str).cps.toList v2 = some cc := by
            have : v2 = 0 ∨ v2 = 1 := by omega
            rcases this with h | h
            · exact ⟨48, .inl rfl, by rw [h]; decide +kernel⟩
            · exact ⟨49, .inr rfl, by rw [h]; decide +kernel⟩
          refine ⟨_, v2, cc, rfl, rfl, by decide +kernel, acc, by show 2 ≤ sizeLine; decide, fun tp htp => ?_⟩
          have N4 := N3.same (same_upd (o := .tup [S nm, V.str ⟨#[cc]⟩]) htp)
          refine ⟨tp, _, rfl, SqT.of upd_same, rfl, _, _, rfl, _, _, rfl, rfl, ?_⟩
          have b2 : t3 ≤ t + 28 := by omega
          refine ⟨_, rfl, _, rfl, _, rfl, mk nm, rfl, lenS lnm (by decide), _, 1, rfl, rfl, e, c, t3, _, rfl, N4.en.ew, by omega, by omega, by omega, by rw [mk_len]; omega, fun v3 t4 H6 x0 x1 q4 q5 bu6 ew6 => ?_⟩
          have N5 := N4.sip bu6 ew6
          have b3 : t4 ≤ t + 29 := by omega
          rw [mk_len] at x1
          refine ⟨v3, rfl, mk nm, rfl, lenS lnm (by decide), ?_⟩
          obtain ⟨kk, rfl⟩ : ∃ kk : Nat, v3 = (kk : Int) := ⟨v3.toNat, (Int.toNat_of_nonneg x0).symm⟩
          rw [cut_to]
          have phd : nm.take kk <+: nm := List.take_prefix _ _
          have lhd : (nm.take kk).length ≤ 8 := Nat.le_trans phd.length_le lnm
          have pnm : (nm.take (nm.take kk).length == nm.take kk) = true := by simpa using pre_take phd
          generalize nm.take kk = hd at phd lhd pnm
          -- the greatest length
          refine ⟨_, rfl, p, rfl, ⟨_, SqL.of N5.hp⟩, fun D hD => ?_⟩
          have pD : p ≠ D := ne_of_none N5.hp hD
          refine lc_list (K := K) (a := p) (xs := ns.map S) (fun i H2 => H2 = upd H6 D (.lst (((ns.take i).filter (fun o => o.take hd.length == hd)).map fun a => V.int ((mk a).length : Int)))) rfl (fun i H2 _ z => by rw [z]; exact SqL.of (by rw [upd_ne pD]; exact N5.hp)) ?_ ?_
          · rintro i x H2 hi rfl
            rw [List.getElem?_map] at hi
            obtain ⟨a, hia, rfl⟩ := Option.map_eq_some_iff.mp hi
            have la := (ea a (List.mem_of_getElem? hia)).1
            refine ⟨rfl, _, rfl, _, rfl, mk hd, rfl, lenS lhd (by decide), _, rfl, mk a, rfl, lenS la (by decide), _, rfl, rfl, _, rfl, iteB (fun hb => ?_) (fun hb => ?_)⟩
            · rw [cut_pre] at hb
              refine ⟨_, rfl, mk a, rfl, lenS la (by decide), _, upd_same, len_take _ _ hia (Nat.le_of_eq h8) (by decide), ?_⟩
              rw [upd_upd, filter_take _ hia, if_pos hb, List.map_append]
              rfl
            · rw [cut_pre] at hb
              rw [filter_take _ hia, if_neg (by rw [hb]; decide), List.append_nil]
          · rintro H7 rfl
            rw [List.length_map, take_all]
            have N6 := N5.same (same_upd (o := .lst ((ns.filter (fun o => o.take hd.length == hd)).map fun a => V.int ((mk a).length : Int))) hD)
            have eqm : (ns.filter (fun o => o.take hd.length == hd)).map (fun a => V.int ((mk a).length : Int)) = ((ns.filter (fun o => o.take hd.length == hd)).map fun a => ((mk a).length : Int)).map V.int := by
              rw [List.map_map]; rfl
            refine ⟨D, _, rfl, SqL.of (by rw [upd_same, eqm]), ?_, fun mx hm hmax => ?_⟩
            · rw [List.length_map]
              exact List.length_pos_of_mem (List.mem_filter.mpr ⟨mnm, pnm⟩)
            · refine ⟨mx, 8, rfl, rfl, _, rfl, iteB (fun hb => ?_) (fun hb => ?_)⟩
              · have hlt := of_decide_eq_true hb
                have lt8 : ∀ a ∈ ns, a.take hd.length = hd → a.length < 8 := fun a ha ep => by
                  have := hmax ((mk a).length : Int) (List.mem_map.mpr ⟨a, List.mem_filter.mpr ⟨ha, by simpa using ep⟩, rfl⟩)
                  rw [mk_len] at this
                  omega
                refine ⟨_, rfl, p, rfl, ⟨_, SqL.of N6.hp⟩, fun D2 hD2 => ?_⟩
                have pD2 : p ≠ D2 := ne_of_none N6.hp hD2
                generalize hG : upd H6 D (.lst ((ns.filter (fun o => o.take hd.length == hd)).map fun a => V.int ((mk a).length : Int))) = G at N6 hD2 ⊢
                refine lc_list (K := K) (a := p) (xs := ns.map S) (fun i H2 => H2 = upd G D2 (.lst ((ns.take i).map fun a => S (insAt hd cc a)))) rfl (fun i H2 _ z => by rw [z]; exact SqL.of (by rw [upd_ne pD2]; exact N6.hp)) ?_ ?_
                · rintro i x H2 hi rfl
                  rw [List.getElem?_map] at hi
                  obtain ⟨a, hia, rfl⟩ := Option.map_eq_some_iff.mp hi
                  have la := (ea a (List.mem_of_getElem? hia)).1
                  have lns : ((ns.take i).map fun a => S (insAt hd cc a)).length < sizeLine := by
                    have e : sizeLine = 16777216 := sizeLine_eq
                    rw [List.length_map, List.length_take]; omega
                  refine ⟨rfl, _, rfl, _, rfl, mk hd, rfl, lenS lhd (by decide), _, rfl, mk a, rfl, lenS la (by decide), _, rfl, rfl, _, rfl, iteB (fun hb => ?_) (fun hb => ?_)⟩
                  · rw [cut_pre] at hb
                    refine ⟨_, rfl, _, rfl, mk hd, ⟨#[cc]⟩, rfl, rfl, ?_, _, rfl, _, rfl, mk hd, rfl, lenS lhd (by decide), _, rfl, mk a, rfl, lenS la (by decide), _, _, rfl, rfl, ?_, _, upd_same, lns, ?_⟩
                    · have e : sizeLine = 16777216 := sizeLine_eq
                      rw [mk_len]
                      show hd.length + 1 ≤ _
                      omega
                    · have e : sizeLine = 16777216 := sizeLine_eq
                      rw [cut_from, show (⟨#[cc]⟩ : Str) = mk [cc] from rfl, mk_app, mk_len, mk_len, List.length_append, List.length_drop, mk_len]
                      show hd.length + 1 + _ ≤ _
                      omega
                    · rw [upd_upd, map_take (fun a => S (insAt hd cc a)) hia, ins_yes hb]
                  · rw [cut_pre] at hb
                    refine ⟨_, rfl, _, upd_same, lns, ?_⟩
                    rw [upd_upd, map_take (fun a => S (insAt hd cc a)) hia, ins_no hb]
                · rintro H8 rfl
                  rw [List.length_map, take_all]
                  have N7 := N6.move (ns2 := ns.map (insAt hd cc)) hD2
                  rw [List.map_map] at N7
                  refine ⟨D2, ns.map (insAt hd cc), t4, _, _, _, _, _, rfl, N7, by rw [List.length_map, h8], apt_ins ap, ?_, by omega, by omega⟩
                  intro a ha
                  obtain ⟨x, hx, rfl⟩ := List.mem_map.mp ha
                  exact ⟨ins_len (ea x hx).1 (lt8 x hx), ins_bin hcc (ea x hx).2⟩
              · exact ⟨p, ns, t4, _, _, _, _, _, rfl, N6, h8, ap, ea, by omega, by omega⟩
        · rintro σ H3 ⟨p, ns, t', a3, a4, a5, a6, a7, rfl, N, h8, ap, ea, u0, u1⟩
          exact ⟨p, ns, t', a3, a4, a5, a6, a7, rfl, N, h8, ap, ea, u0, by omega⟩
      · rintro σ2 H2 ⟨p, ns, t', a3, a4, a5, a6, a7, rfl, N, h8, ap, ea, u0, u1⟩
        refine ⟨W3 H e c f p t ns a3 a4 a5 a6 a7 0, ?_, ?_⟩
        · refine ⟨W3 H e c f p t ns a3 a4 a5 a6 a7, ⟨8, ns, [], t', rfl, N, h8, .refl _, u0, by omega⟩, ?_⟩
          rintro m σ H3 ⟨ms, fs, t2, rfl, N, lm, pm, u0, u1⟩
          have lall : fs.length + ms.length = 8 := by rw [← List.length_append, pm.length_eq, h8]
          have bn : ∀ a ∈ ms, Bin a := fun a ha => (ea a (pm.mem_iff.mp (List.mem_append_right _ ha))).2
          refine ⟨_, rfl, Nat.zero_le _, fun q hq => ?_⟩
          have N1 := N.same (same_upd (o := .lst []) hq)
          refine ⟨_, _, .lst (SqL.of N1.hp) (dAll_texts ms), .lst (SqL.of upd_same) .nil, shaped_texts bn, shaped_texts (ns := []) (fun _ z => nomatch z), _, rfl, iteB (fun hb => ?_) (fun hb => ?_)⟩
          · rw [eqv_nil] at hb
            have pos : 1 ≤ ms.length := by
              cases ms with
              | nil => exact absurd hb (by decide)
              | cons x r => exact Nat.succ_pos _
            refine ⟨fun σ' H' => ∃ m', m' < m ∧ W3 H e c f p t ns a3 a4 a5 a6 a7 m' σ' H', fun _ _ z => z, ?_⟩
            generalize upd H3 q (.lst []) = H4 at N1 ⊢
            refine ⟨_, rfl, .inl ⟨rfl, _, SqL.of N1.hf⟩, _, rfl, .inl ⟨rfl, _, SqL.of N1.hp⟩, _, rfl, _, rfl, p, _, rfl, .inl (SqL.of N1.hp), e, c, t2, _, rfl, N1.en.ew, by omega, by omega, by rw [List.length_map]; omega, by rw [List.length_map]; omega, fun v t3 H5 v0 v1 q0 q1 bu ew5 => ?_⟩
            rw [List.length_map] at v1
            have N2 := N1.sip bu ew5
            have hj : v.toNat < ms.length := by omega
            refine ⟨p, _, v, v.toNat, S ms[v.toNat], rfl, rfl, N2.hp, by omega, by omega, by rw [List.length_map]; exact seqIx v0 v1, by rw [List.getElem?_map, List.getElem?_eq_getElem hj]; rfl, ?_⟩
            rw [eraseIdx_map']
            refine ⟨f, _, _, rfl, rfl, by rw [upd_ne N2.pf.symm]; exact N2.hf, ?_, ?_⟩
            · have e : sizeLine = 16777216 := sizeLine_eq
              rw [List.length_map]; omega
            · have le : (ms.eraseIdx v.toNat).length = ms.length - 1 := List.length_eraseIdx_of_lt hj
              have pe : p ≠ e := N2.en.ew.apart N2.hp
              have fe : f ≠ e := N2.en.ew.apart N2.hf
              refine ⟨m - 1, by omega, ms.eraseIdx v.toNat, fs ++ [ms[v.toNat]], t3, rfl, ⟨(N2.en.upd N2.np pe N2.pc).upd N2.nf fe N2.fc, N2.np, N2.nf, N2.pf, by rw [upd_ne N2.pf, upd_same], by rw [upd_same, List.map_append]; rfl, N2.fc, N2.pc⟩, by omega, ?_, by omega, by omega⟩
              rw [List.append_assoc]
              exact ((erase_perm (List.getElem?_eq_getElem hj)).append_left fs).trans pm
          · rw [eqv_nil] at hb
            have l0 : ms = [] := by
              cases ms with
              | nil => rfl
              | cons x r => simp at hb
            subst l0
            exact ⟨[], fs, t2, rfl, N1, rfl, pm, u0, by omega⟩
        · rintro σ3 H3 ⟨ms, fs, t2, rfl, N, lm, pm, u0, u1⟩
          have l0 : ms = [] := List.length_eq_zero_iff.mp lm
          subst l0
          rw [List.append_nil] at pm
          exact ⟨_, rfl, k fs f t2 H3 ⟨ap.perm pm.symm, by rw [pm.length_eq, h8], fun a ha => ea a (pm.mem_iff.mp ha)⟩ N.nf N.hf N.en u0 (by omega)⟩
end
end K15

set_option Elab.async false
set_option linter.all false
set_option maxRecDepth 100000
set_option maxHeartbeats 8000000
namespace K15
open PySem PySem.Spec PyProof.Rows L2
/-- what cut tells of a text -/
def Told (H H' : Hp) (r : Option (List Nat)) (v : V) : Prop := match r with
  | none => v = .non
  | some p => ∃ a : Addr, v = .ref a ∧ H a = none ∧ ProgAt H' a p
section
variable {P : Program} {w : World} {K : PySem.W.Frag} {mg : Str → Option Value} {base : Heap}
def spCut : Sp := fun vs H Q _ => ∃ (q : Addr) (ns : List (List Nat)) (l : List Nat), vs = [.ref q, S l] ∧ H q = some (.lst (ns.map S)) ∧ Good ns ∧ l.length ≤ 100 ∧
  ∀ (v : V) (H' : Hp), Same H H' → Told H H' (cut (nmF ns) l) v → Q v H'
abbrev Nc : List Str := ["_law_names_here", "_law_text", "_law_words", "_law_found", "_law_left", "_law_turn", "_law_hits", "_law_at", "_law_name"]
theorem sc_cut : FnScope Nc ["_law_names_here", "_law_text"] (defScope sCut) := ⟨rfl, rfl, rfl, by decide +kernel, rfl, by decide +kernel, by decide +kernel⟩
theorem words_at {h : Nat} (hh : h < 7) : ([V.str "say", V.str "up", V.str "down", V.str "swap", V.str "add", V.str "times", V.str "skip"] : List V)[h]? = some (V.str (wd h)) := by
  have : h = 0 ∨ h = 1 ∨ h = 2 ∨ h = 3 ∨ h = 4 ∨ h = 5 ∨ h = 6 := by omega
  rcases this with rfl | rfl | rfl | rfl | rfl | rfl | rfl <;> decide +kernel
theorem Good.of_get {ns : List (List Nat)} {i : Nat} {a : List Nat} (h : ns[i]? = some a) : nmF ns i = a := by
  show ns.getD i [] = a
  rw [List.getD_eq_getElem?_getD, h]
  rfl
theorem str_emp : V.str ("" : Str) = S [] := by decide +kernel
abbrev hitF (ns : List (List Nat)) (l : List Nat) : Nat → Bool := fun i => l.take (nmF ns i).length == nmF ns i
theorem hits_eq (ns : List (List Nat)) (l : List Nat) : hits (nmF ns) l = (List.range 8).filter (hitF ns l) := rfl
abbrev intL (l : List Nat) : List V := (l.map fun n : Nat => (n : Int)).map V.int
def C2 (H : Hp) (q wa fo : Addr) (ns : List (List Nat)) (l : List Nat) (i : Nat) (σ : L2.St) (H' : Hp) : Prop := ∃ (left fs : List Nat) (a5 a6 : Option V),
  σ = [some (.ref q), some (S l), some (.ref wa), some (.ref fo), some (S left), a5, a6, none, none] ∧ Same H H' ∧ H' wa = some (.lst [V.str "say", V.str "up", V.str "down", V.str "swap", V.str "add", V.str "times", V.str "skip"]) ∧
  H' fo = some (.lst (fs.map fun i => V.str (wd i))) ∧ left.length ≤ 100 ∧ fs.length ≤ i ∧ cutF (nmF ns) (l.length - i) left fs = cut (nmF ns) l
theorem cutF_step {N : Nat → List Nat} {k : Nat} {l f : List Nat} : cutF N (k + 1) l f = match hits N l with
    | [] => none
    | h :: _ => if h = 7 then (if l.drop (N h).length = [] then some f else none) else cutF N k (l.drop (N h).length) (f ++ [h]) := rfl
theorem ok_cut (T : Tx K mg) : Cl P w K mg base 1 "_law_cut" ["_law_names_here", "_law_text"] spCut := by
  obtain ⟨fd, F⟩ := T.d_law_cut
  refine clD F T.g_law_cut sc_cut (fun _ _ _ _ _ _ us hl => match us, hl with | [_, _], _ => rfl) (fun vs H Q E h => ?_) (fun cdv A outer s H vs Q E hr h => ?_)
  · obtain ⟨q, ns, l, rfl, _⟩ := h
    rfl
  · obtain ⟨q, ns, l, rfl, hq, g, ll, k⟩ := h
    have nd := sc_cut.nd
    refine ⟨_,
      pss_cons (ps_asg (pe_tup (pa_cons (pe_lst (pa_cons pe_str (pa_cons pe_str (pa_cons pe_str (pa_cons pe_str (pa_cons pe_str (pa_cons pe_str (pa_cons pe_str pa_nil)))))))) (pa_cons (pe_lst pa_nil) (pa_cons (pv 1) pa_nil))))
        (pg_tup rfl (pgs_cons (pg_name (i := 2) nd rfl (Or.inl rfl)) (pgs_cons (pg_name (i := 3) nd rfl (Or.inl rfl)) (pgs_cons (pg_name (i := 4) nd rfl (Or.inr rfl)) pgs_nil)))))
      (pss_cons (ps_for PassesOwn.never rfl (pi_range1 (by rfl) T.f_range (pa_cons (pe_callB call_len_str (by rfl) T.f_len PySem.boot_len (pa_cons (pv 1) pa_nil)) pa_nil)) (pg_name (i := 5) nd rfl (Or.inl rfl))
        (pss_cons (ps_setLc (i := 6) (own := [("_law_at", 7), ("_law_name", 8)]) (g := gTwo K 7 8) (by rfl) nd rfl rfl (sw_true rfl rfl rfl (by decide +kernel)) (pi_enum (by rfl) T.f_enumerate (pa_cons (pv 0) pa_nil)) (blkOk_by (N := Nc) (sc := defScope sCut) (by decide +kernel))
            (fun _ _ _ _ _ => pg_tup rfl (pgs_cons (pg_name (i := 7) nd rfl (Or.inl rfl)) (pgs_cons (pg_name (i := 8) nd rfl (Or.inl rfl)) pgs_nil)))
            (fun _ _ _ _ _ => pts_one (pt_cmpR op_eq (pe_slice sl_str (pv 4) po_none (po_some (pe_callB call_len_str (by rfl) T.f_len PySem.boot_len (pa_cons (pv 8) pa_nil)))) (pv 8) (nomark _))) (fun _ _ _ _ _ => pv 7))
        (pss_cons (ps_if (pt_cmpR (op_eqD hr.units) (pv 6) (pe_lst pa_nil) (nomark _)) (pss_one (ps_ret pe_non)) pss_nil)
        (pss_cons (ps_set (i := 4) nd rfl (Or.inr rfl) (pe_slice sl_str (pv 4) (po_some (pe_callB call_len_str (by rfl) T.f_len PySem.boot_len (pa_cons (pe_ix ix_list (pv 0) (pe_ix ix_list (pv 6) pe_int (fun _ _ => rfl)) (fun _ _ => rfl)) pa_nil))) po_none))
        (pss_cons (ps_if (pt_cmpR op_eq (pe_ix ix_list (pv 6) pe_int (fun _ _ => rfl)) pe_int (nomark _))
            (pss_one (ps_ret (pe_ifExp (pt_cmpR op_eq (pv 4) pe_str (nomark _)) (pe_callTy call_tuple_of (by rfl) T.f_tuple (by decide +kernel) (pa_cons (pv 3) pa_nil)) pe_non))) pss_nil)
        (pss_one (ps_expr (pe_bm PySem.F.plainAttrs_list PySem.F.slot_list_append PySem.F.type_list_append mt_append (pv 3) (pa_cons (pe_ix ix_list (pv 2) (pe_ix ix_list (pv 6) pe_int (fun _ _ => rfl)) (fun _ _ => rfl)) pa_nil)))))))))
      (pss_one (ps_ret pe_non))), ?_⟩
    refine ⟨by show 7 ≤ sizeLine; decide, fun wa hwa => ⟨Nat.zero_le _, fun fo hfo => ⟨_, rfl, by show 3 ≤ sizeLine; decide, fun tp htp => ⟨tp, _, rfl, SqT.of upd_same, rfl, _, _, rfl, _, _, rfl, _, _, rfl, rfl, ?_⟩⟩⟩⟩
    have s1 := same_upd (o := .lst [V.str "say", V.str "up", V.str "down", V.str "swap", V.str "add", V.str "times", V.str "skip"]) hwa
    have s2 := same_upd (o := .lst []) hfo
    have s3 := same_upd (o := .tup [V.ref wa, V.ref fo, V.str (mk l)]) htp
    have nfo : H fo = none := s1.free hfo
    have wfo : wa ≠ fo := ne_of_none upd_same hfo
    refine ⟨_, rfl, mk l, rfl, lenS ll (by decide), _, rfl, by omega, by rw [mk_len]; omega, ?_⟩
    rw [show ((mk l).length : Int).toNat = l.length by rw [mk_len]; rfl]
    refine for_range (fun i σ' H' => C2 H q wa fo ns l i σ' H') ⟨l, [], none, none, rfl, (s1.trans s2).trans s3, s3 _ _ (s2 _ _ upd_same), s3 _ _ upd_same, ll, Nat.le_refl _, rfl⟩ ?_ ?_
    · rintro i σ H1 hi ⟨left, fs, a5, a6, rfl, sH, ew, ef, lf, lfs, ec⟩
      refine ⟨_, rfl, q, _, rfl, SqL.of (sH _ _ hq), fun D hD => ?_⟩
      refine lc_it walk_enum (fun j H2 => Same H1 H2 ∧ H2 D = some (.lst (intL ((List.range j).filter (hitF ns left))))) ⟨same_upd hD, upd_same⟩ (fun j H2 _ z => SqL.of (z.1 _ _ (sH _ _ hq))) ?_ ?_
      · rintro j v H2 H3 hj ⟨sj, ej⟩ ⟨tt, x, y, rfl, nt, rfl, ex, ey⟩
        obtain rfl := Option.some.inj ex
        have ey' : (ns.map S)[j]? = some y := ey
        rw [List.getElem?_map] at ey'
        obtain ⟨a, ea, rfl⟩ := Option.map_eq_some_iff.mp ey'
        have la : a.length ≤ 8 := (g.each a (List.mem_of_getElem? ea)).1
        have ea' := Good.of_get ea
        have hj8 : j < 8 := by have := (List.getElem?_eq_some_iff.mp ea).1; rw [g.l8] at this; exact this
        have nDt : D ≠ tt := ne_of_none ej nt
        refine ⟨tt, _, rfl, SqT.of upd_same, rfl, _, _, rfl, _, _, rfl, rfl, rfl, _, rfl, _, rfl, mk a, rfl, lenS la (by decide), _, rfl, mk left, rfl, lenS lf (by decide), _, rfl, rfl, _, rfl, iteB (fun hb => ?_) (fun hb => ?_)⟩
        · rw [cut_pre, ← ea'] at hb
          refine ⟨_, rfl, _, by rw [upd_ne nDt]; exact ej, ?_, ?_, ?_⟩
          · have e : sizeLine = 16777216 := sizeLine_eq
            have := List.length_filter_le (hitF ns left) (List.range j)
            rw [List.length_range] at this
            rw [List.length_map, List.length_map]
            omega
          · exact same_of_but hD (sj.trans (same_upd nt)) But.upd
          · rw [upd_same, List.range_succ, List.filter_append]
            have : [j].filter (hitF ns left) = [j] := by simp only [List.filter_cons, List.filter_nil]; rw [if_pos hb]
            rw [this]
            simp
        · rw [cut_pre, ← ea'] at hb
          refine ⟨sj.trans (same_upd nt), ?_⟩
          rw [upd_ne nDt, ej, List.range_succ, List.filter_append]
          have : [j].filter (hitF ns left) = [] := by simp only [List.filter_cons, List.filter_nil]; rw [if_neg (by rw [show hitF ns left j = false from hb]; decide)]
          rw [this, List.append_nil]
      · rintro H2 ⟨s4, e4⟩
        rw [List.length_map, g.l8, ← hits_eq] at e4
        obtain ⟨kk, ek⟩ : ∃ kk, l.length - i = kk + 1 := ⟨l.length - i - 1, by omega⟩
        have ek' : l.length - (i + 1) = kk := by omega
        rw [ek, cutF_step] at ec
        refine ⟨_, rfl, Nat.zero_le _, fun e he => ?_⟩
        have s5 := same_upd (o := .lst []) he
        have sAll := (sH.trans s4).trans s5
        have e5 := s5 _ _ e4
        refine ⟨_, _, .lst (SqL.of e5) (dAll_ints _), .lst (SqL.of upd_same) .nil, shaped_ints _, shaped_ints [], _, rfl, iteB (fun hb => ?_) (fun hb => ?_)⟩
        · rw [eqv_nil] at hb
          cases hh : hits (nmF ns) left with
          | nil =>
            rw [hh] at ec
            exact k _ _ sAll (by rw [← ec]; rfl)
          | cons x r => rw [hh] at hb; simp at hb
        · rw [eqv_nil] at hb
          cases hh : hits (nmF ns) left with
          | nil => rw [hh] at hb; simp at hb
          | cons h r =>
            rw [hh] at ec e5
            obtain ⟨h8, el⟩ := hits_head hh
            generalize upd H2 e (.lst []) = H3 at s5 sAll e5 ⊢
            have at0 : atI (intL (h :: r)) 0 = some (V.int (h : Int)) := atI_nat (j := 0) rfl
            have lN : (nmF ns h).length ≤ 8 := g.short h8
            refine ⟨_, rfl, _, rfl, _, rfl, D, _, 0, _, rfl, rfl, SqL.of e5, at0, q, _, (h : Int), S (nmF ns h), rfl, rfl, SqL.of (sAll _ _ hq), atI_nat (by rw [List.getElem?_map, g.get h8]; rfl), mk (nmF ns h), rfl, lenS lN (by decide), _, rfl, mk left, rfl, lenS lf (by decide), ?_⟩
            rw [cut_from, mk_len]
            have ll' : (left.drop (nmF ns h).length).length ≤ 100 := by rw [List.length_drop]; omega
            refine ⟨_, rfl, D, _, 0, _, rfl, rfl, SqL.of e5, at0, rfl, _, rfl, iteB (fun hb => ?_) (fun hb => ?_)⟩
            · have h7 : h = 7 := by
                have := V.int.inj (of_decide_eq_true hb)
                omega
              have ec' : (if left.drop (nmF ns h).length = [] then some fs else none) = cut (nmF ns) l := by
                rw [← ec]
                show _ = (if h = 7 then _ else _)
                rw [if_pos h7]
              refine ⟨_, rfl, rfl, _, rfl, iteB (fun hb2 => ?_) (fun hb2 => ?_)⟩
              · have e0 : left.drop (nmF ns h).length = [] := by
                  rw [str_emp] at hb2
                  exact S_inj (of_decide_eq_true hb2)
                rw [if_pos e0] at ec'
                refine ⟨_, rfl, fo, _, rfl, .inl ⟨SqL.of (s5 _ _ (s4 _ _ ef)), fun t ht => ?_⟩⟩
                refine k _ _ (sAll.trans (same_upd ht)) ?_
                rw [← ec']
                exact ⟨t, rfl, sAll.free ht, upd_same⟩
              · have e0 : ¬ left.drop (nmF ns h).length = [] := fun z => by
                  rw [z, str_emp] at hb2
                  exact of_decide_eq_false hb2 rfl
                rw [if_neg e0] at ec'
                exact k _ _ sAll (by rw [← ec']; rfl)
            · have h7 : h ≠ 7 := fun z => by
                subst z
                exact of_decide_eq_false hb rfl
              have ec' : cutF (nmF ns) kk (left.drop (nmF ns h).length) (fs ++ [h]) = cut (nmF ns) l := by
                rw [← ec]
                show _ = (if h = 7 then _ else _)
                rw [if_neg h7]
              have efo := s5 _ _ (s4 _ _ ef)
              have ewa := s5 _ _ (s4 _ _ ew)
              refine ⟨_, rfl, .inl ⟨rfl, _, SqL.of efo⟩, _, rfl, _, rfl, D, _, 0, _, rfl, rfl, SqL.of e5, at0, wa, _, (h : Int), V.str (wd h), rfl, rfl, SqL.of ewa, atI_nat (words_at (by omega)), fo, _, _, rfl, rfl, efo, ?_, ?_⟩
              · have e : sizeLine = 16777216 := sizeLine_eq
                rw [List.length_map]; omega
              · refine ⟨left.drop (nmF ns h).length, fs ++ [h], _, _, rfl, same_of_but nfo sAll But.upd, by rw [upd_ne wfo]; exact ewa, ?_, ll', ?_, by rw [ek']; exact ec'⟩
                · rw [upd_same, List.map_append]; rfl
                · rw [List.length_append]; show _ + 1 ≤ _; omega
    · rintro σ H1 ⟨left, fs, a5, a6, rfl, sH, ew, ef, lf, lfs, ec⟩
      refine k _ _ sH ?_
      rw [Nat.sub_self] at ec
      rw [← ec]
      rfl
def spSigns : Sp := fun vs H Q _ => ∃ n m : Nat, vs = [.int (n : Int), .int (m : Int)] ∧ m ≤ 100 ∧ ∀ H', Same H H' → Q (S (sgn n m)) H'
abbrev Ng : List Str := ["_law_number", "_law_many", "_law_at"]
theorem sc_signs : FnScope Ng ["_law_number", "_law_many"] (defScope sSigns) := ⟨rfl, rfl, rfl, by decide +kernel, rfl, by decide +kernel, by decide +kernel⟩
theorem join_one : ∀ cs : List Nat, TL.joinL [] (cs.map fun c => [c]) = cs
  | [] => rfl
  | [c] => rfl
  | c :: d :: cs => by
    have ih := join_one (d :: cs)
    show [c] ++ [] ++ TL.joinL [] ((d :: cs).map fun c => [c]) = _
    rw [ih]
    rfl
theorem join_mk (cs : List Nat) : Txt.join ("" : Str) (cs.map fun c => mk [c]) = mk cs := by
  have h := SX.join_S [] (cs.map fun c => [c])
  rw [join_one, List.map_map] at h
  rw [show ("" : Str) = SX.S [] by decide +kernel]
  exact h
theorem sum_one : ∀ cs : List Nat, ((cs.map fun c => mk [c]).map (·.length)).sum = cs.length
  | [] => rfl
  | c :: cs => by
    have ih := sum_one cs
    show 1 + ((cs.map fun c => mk [c]).map (·.length)).sum = cs.length + 1
    omega
theorem bit_nat (n i : Nat) : Builtin.bitAnd ((n : Int) / 2 ^ (0 + (i : Int)).toNat) 1 = ((n / 2 ^ i % 2 : Nat) : Int) := by
  have e : (0 + (i : Int)).toNat = i := by omega
  rw [e]
  have h0 : (0 : Int) ≤ (n : Int) / 2 ^ i := Int.ediv_nonneg (Int.natCast_nonneg n) (Int.pow_nonneg (by decide))
  have h := Bits.bitAnd_mask (x := (n : Int) / 2 ^ i) 1 h0
  rw [show ((2 : Int) ^ 1 - 1) = 1 by decide, show ((2 : Int) ^ 1) = 2 by decide] at h
  rw [h]
  norm_cast
theorem ok_signs (T : Tx K mg) : Cl P w K mg base 1 "_law_signs" ["_law_number", "_law_many"] spSigns := by
  obtain ⟨fd, F⟩ := T.d_law_signs
  refine clD F T.g_law_signs sc_signs (fun _ _ _ _ _ _ us hl => match us, hl with | [_, _], _ => rfl) (fun vs H Q E h => ?_) (fun cdv A outer s H vs Q E hr h => ?_)
  · obtain ⟨n, m, rfl, _⟩ := h
    rfl
  · obtain ⟨n, m, rfl, hm, k⟩ := h
    have nd := sc_signs.nd
    refine ⟨_, pss_one (ps_ret (pe_m1 PySem.F.slot_str_join PySem.F.type_str_join mt_join pe_str (pe_revL
      (pe_lc (own := [("_law_at", 2)]) (g := gName 2) (tt := tYes) rfl nd (pi_range1 (by rfl) T.f_range (pa_cons (pv 1) pa_nil)) (blkOk_by (N := Ng) (sc := defScope sSigns) (by decide +kernel)) (fun _ _ _ _ _ => pg_name (i := 2) nd rfl (Or.inl rfl)) (fun _ _ _ _ _ => pts_nil)
        (fun _ _ _ _ _ => pe_ix ix_str pe_str (pe_op op_and (pe_op op_shr (pv 0) (pv 2)) pe_int) (fun _ _ => rfl)))))), ?_⟩
    refine ⟨⟨_, rfl⟩, _, rfl, (m : Int), rfl, by omega, by omega, fun D hD => ?_⟩
    refine lc_range (lo := 0) (n := (m : Int).toNat) (fun i H2 => H2 = upd H D (.lst ((List.range i).map fun a => V.str (mk [48 + n / 2 ^ a % 2])))) rfl ?_ ?_
    · rintro i H2 hi rfl
      obtain ⟨hc, hat⟩ : (n / 2 ^ i % 2 < 2) ∧ atI ("01" : Str).cps.toList ((n / 2 ^ i % 2 : Nat) : Int) = some (48 + n / 2 ^ i % 2) := by
        have h2 : n / 2 ^ i % 2 < 2 := Nat.mod_lt _ (by decide)
        refine ⟨h2, ?_⟩
        generalize n / 2 ^ i % 2 = b at h2
        have : b = 0 ∨ b = 1 := by omega
        rcases this with rfl | rfl <;> decide +kernel
      refine ⟨rfl, _, rfl, _, rfl, _, _, rfl, rfl, by omega, _, 1, rfl, rfl, _, _, _, rfl, rfl, by decide +kernel, by rw [bit_nat]; exact hat, _, upd_same, ?_, ?_⟩
      · have e : sizeLine = 16777216 := sizeLine_eq
        rw [List.length_map, List.length_range]
        omega
      · rw [upd_upd, List.range_succ, List.map_append]
        rfl
    · rintro H2 rfl
      refine ⟨D, _, rfl, SqL.of upd_same, fun p hp => ?_⟩
      have er : ((List.range (m : Int).toNat).map fun a => V.str (mk [48 + n / 2 ^ a % 2])).reverse = ((sgn n m).map fun c => mk [c]).map V.str := by
        unfold sgn
        rw [show (m : Int).toNat = m by omega, List.map_reverse, List.map_reverse, List.map_map, List.map_map]
        rfl
      rw [er]
      refine ⟨_, p, (sgn n m).map fun c => mk [c], rfl, rfl, .inl (SqL.of upd_same), ?_, ?_⟩
      · rw [sum_one, sgn_len, show ("" : Str).length = 0 by decide +kernel]
        omega
      · rw [join_mk]
        exact k _ ((same_upd hD).trans (same_upd hp))
end
end K15

namespace K15
theorem lx_total : ∀ {a b : List Nat}, a ≠ b → lx a b ∨ lx b a
  | [], [], h => (h rfl).elim
  | [], _ :: _, _ => .inl trivial
  | _ :: _, [], _ => .inr trivial
  | a :: as, b :: bs, h => by
    by_cases e : a = b
    · rcases lx_total (a := as) (b := bs) (fun q => h (by rw [e, q])) with g | g
      · exact .inl (.inr ⟨e, g⟩)
      · exact .inr (.inr ⟨e.symm, g⟩)
    · rcases Nat.lt_or_gt_of_ne e with g | g
      · exact .inl (.inl g)
      · exact .inr (.inl g)
theorem ins_ex {N : Nat → List Nat} (x : Nat) : ∀ o : List Nat, (∀ y ∈ o, N x ≠ N y) → (o.Pairwise fun i j => lx (N i) (N j)) → ∃ o' : List Nat, o'.Perm (x :: o) ∧ o'.Pairwise fun i j => lx (N i) (N j)
  | [], _, _ => ⟨[x], .refl _, List.pairwise_singleton _ _⟩
  | y :: ys, d, p => by
    obtain ⟨p1, p2⟩ := List.pairwise_cons.mp p
    rcases lx_total (d y List.mem_cons_self) with g | g
    · exact ⟨x :: y :: ys, .refl _, List.pairwise_cons.mpr ⟨fun z hz => by
        rcases List.mem_cons.mp hz with e | hz
        · rw [e]; exact g
        · exact lx_trans g (p1 z hz), p⟩⟩
    · obtain ⟨o', q1, q2⟩ := ins_ex x ys (fun z hz => d z (List.mem_cons_of_mem _ hz)) p2
      refine ⟨y :: o', (q1.cons y).trans (List.Perm.swap x y ys), List.pairwise_cons.mpr ⟨fun z hz => ?_, q2⟩⟩
      rcases List.mem_cons.mp (q1.mem_iff.mp hz) with e | hz
      · rw [e]; exact g
      · exact p1 z hz
theorem sort_ex {N : Nat → List Nat} : ∀ l : List Nat, l.Nodup → (∀ i ∈ l, ∀ j ∈ l, N i = N j → i = j) → ∃ o : List Nat, o.Perm l ∧ o.Pairwise fun i j => lx (N i) (N j)
  | [], _, _ => ⟨[], .refl _, List.Pairwise.nil⟩
  | x :: l, nd, inj => by
    obtain ⟨n1, n2⟩ := List.nodup_cons.mp nd
    obtain ⟨o, q1, q2⟩ := sort_ex l n2 fun i hi j hj => inj i (List.mem_cons_of_mem _ hi) j (List.mem_cons_of_mem _ hj)
    obtain ⟨o', r1, r2⟩ := ins_ex (N := N) x o (fun y hy e => n1 (by
      have my := q1.mem_iff.mp hy
      rw [inj x List.mem_cons_self y (List.mem_cons_of_mem _ my) e]; exact my)) q2
    exact ⟨o', r1.trans (q1.cons x), r2⟩
theorem Code.inj {N : Nat → List Nat} (C : Code N) {i j : Nat} (hi : i < 8) (hj : j < 8) (e : N i = N j) : i = j := C.ap i j hi hj (by rw [e]; exact List.prefix_refl _)
theorem cnt_rec {N : Nat → List Nat} (C : Code N) (L : Nat) :
    cnt N L = ((List.range 7).map fun i => if (N i).length ≤ L then cnt N (L - (N i).length) else 0).sum + if L = (N 7).length then 1 else 0 := by
  obtain ⟨o, q1, q2⟩ := sort_ex (N := N) (List.range 8) List.nodup_range fun i hi j hj => C.inj (List.mem_range.mp hi) (List.mem_range.mp hj)
  exact cnt_eq C q1 q2 L
theorem sum_filter (f : Nat → Nat) (φ : Nat → Bool) : ∀ l : List Nat, ((l.filter φ).map f).sum = (l.map fun i => if φ i = true then f i else 0).sum
  | [] => rfl
  | x :: l => by
    have ih := sum_filter f φ l
    by_cases h : φ x = true
    · rw [List.filter_cons_of_pos h]; simp [h, ih]
    · rw [List.filter_cons_of_neg h]; simp [h, ih]
theorem sum_cast : ∀ l : List Nat, (l.map fun n : Nat => (n : Int)).sum = ((l.sum : Nat) : Int)
  | [] => rfl
  | x :: l => by
    simp only [List.map_cons, List.sum_cons, sum_cast l]
    omega
end K15

set_option Elab.async false
set_option linter.all false
set_option maxRecDepth 100000
set_option maxHeartbeats 8000000
namespace K15
open PySem PySem.Spec PyProof.Rows L2
section
variable {P : Program} {w : World} {K : PySem.W.Frag} {mg : Str → Option Value} {base : Heap}
abbrev cntL (ns : List (List Nat)) (L : Nat) : List V := (List.range L).map fun i => V.int (cnt (nmF ns) i : Nat)
theorem Good.rng {ns : List (List Nat)} (g : Good ns) : ns = (List.range 8).map (nmF ns) := by
  refine List.ext_getElem? fun i => ?_
  rw [List.getElem?_map]
  by_cases h : i < 8
  · rw [g.get h, List.getElem?_range h]; rfl
  · rw [List.getElem?_eq_none (by rw [g.l8]; omega), List.getElem?_eq_none (by rw [List.length_range]; omega)]; rfl
abbrev lenL (ns : List (List Nat)) (n : Nat) : List V := (List.range n).map fun i => V.int ((nmF ns i).length : Int)
theorem Good.lens {ns : List (List Nat)} (g : Good ns) : (ns.map fun a => V.int ((K15.mk a).length : Int)) = lenL ns 8 := by
  have h := congrArg (List.map fun a => V.int ((K15.mk a).length : Int)) g.rng
  rw [h, List.map_map]
  refine List.map_congr_left fun i _ => ?_
  show V.int ((K15.mk (nmF ns i)).length : Int) = _
  rw [mk_len]
theorem cut7 (ns : List (List Nat)) : cutV (lenL ns 8) none (some (-1)) = lenL ns 7 := rfl
theorem at7 (ns : List (List Nat)) : atI (lenL ns 8) (-1) = some (V.int ((nmF ns 7).length : Int)) := rfl
theorem at_cnt {ns : List (List Nat)} {L j : Nat} (h : j < L) : atI (cntL ns L) (j : Int) = some (V.int (cnt (nmF ns) j : Nat)) := atI_nat (by rw [List.getElem?_map, List.getElem?_range h]; rfl)
theorem cntL_len (ns : List (List Nat)) (L : Nat) : (cntL ns L).length = L := by rw [List.length_map, List.length_range]
theorem Good.pos8 {ns : List (List Nat)} (g : Good ns) {i : Nat} (h : i < 8) : 1 ≤ (nmF ns i).length := g.pos _ (List.mem_of_getElem? (g.get h))
theorem many_sum {ns : List (List Nat)} (g : Good ns) (L : Nat) (b : Bool) (hb : b = decide (L = (nmF ns 7).length)) :
    ((((List.range 7).filter fun j => decide ((nmF ns j).length ≤ L)).map fun j => ((cnt (nmF ns) (L - (nmF ns j).length) : Nat) : Int)).sum + b2i b) = ((cnt (nmF ns) L : Nat) : Int) := by
  have e1 : (((List.range 7).filter fun j => decide ((nmF ns j).length ≤ L)).map fun j => ((cnt (nmF ns) (L - (nmF ns j).length) : Nat) : Int)) = ((((List.range 7).filter fun j => decide ((nmF ns j).length ≤ L)).map fun j => cnt (nmF ns) (L - (nmF ns j).length)).map fun n : Nat => (n : Int)) := by
    rw [List.map_map]; rfl
  rw [e1, sum_cast, sum_filter, cnt_rec g.code L]
  have e2 : ((List.range 7).map fun i => if decide ((nmF ns i).length ≤ L) = true then cnt (nmF ns) (L - (nmF ns i).length) else 0) = (List.range 7).map fun i => if (nmF ns i).length ≤ L then cnt (nmF ns) (L - (nmF ns i).length) else 0 := by
    refine List.map_congr_left fun i _ => ?_
    simp only [decide_eq_true_eq]
  rw [e2, hb]
  by_cases h : L = (nmF ns 7).length
  · rw [if_pos h, decide_eq_true h]; show _ + 1 = _; omega
  · rw [if_neg h, decide_eq_false h]; show _ + 0 = _; omega
def spMany (K : PySem.W.Frag) : Sp := fun vs H Q _ => ∃ (tg tb : Addr) (ns : List (List Nat)) (L : Nat), vs = [.ref tg, .ref tb] ∧ TongAt K H tg ns ∧ Good ns ∧ L ≤ 100 ∧ H tb = some (.lst (cntL ns L)) ∧
  ∀ H', Same H H' → Q (.int (cnt (nmF ns) L : Nat)) H'
abbrev Nm1 : List Str := ["tongue", "table", "sizes", "length", "ways", "name", "size"]
theorem sc_many : FnScope Nm1 ["tongue", "table"] (defScope sManyNext) := ⟨rfl, rfl, rfl, by decide +kernel, rfl, by decide +kernel, by decide +kernel⟩
theorem ok_many (T : Tx K mg) : Cl P w K mg base 1 "many_next" ["tongue", "table"] (spMany K) := by
  obtain ⟨fd, F⟩ := T.d_many_next
  refine clD F T.g_many_next sc_many (fun _ _ _ _ _ _ us hl => match us, hl with | [_, _], _ => rfl) (fun vs H Q E h => ?_) (fun cdv A outer s H vs Q E hr h => ?_)
  · obtain ⟨tg, tb, ns, L, rfl, _⟩ := h
    rfl
  · obtain ⟨tg, tb, ns, L, rfl, ht, g, lL, hb, k⟩ := h
    have nd := sc_many.nd
    refine ⟨_,
      pss_cons (ps_asg (pe_tup (pa_cons (pe_lc (own := [("name", 5)]) (g := gName 5) (tt := tYes) rfl nd (pi_tup (pe_fld (pv 0) rfl)) (blkOk_by (N := Nm1) (sc := defScope sManyNext) (by decide +kernel)) (fun _ _ _ _ _ => pg_name (i := 5) nd rfl (Or.inl rfl)) (fun _ _ _ _ _ => pts_nil)
            (fun _ _ _ _ _ => pe_callB call_len_str (by rfl) T.f_len PySem.boot_len (pa_cons (pv 5) pa_nil)))
          (pa_cons (pe_callB call_len_seq (by rfl) T.f_len PySem.boot_len (pa_cons (pv 1) pa_nil)) pa_nil)))
        (pg_tup rfl (pgs_cons (pg_name (i := 2) nd rfl (Or.inl rfl)) (pgs_cons (pg_name (i := 3) nd rfl (Or.inr rfl)) pgs_nil))))
      (pss_cons (ps_setLc (i := 4) (own := [("size", 6)]) (g := gName 6) (by rfl) nd rfl rfl (sw_true rfl rfl rfl (by decide +kernel)) (pi_list (pe_slice sl_list (pv 2) po_none (po_some (pe_un un_neg pe_int)))) (blkOk_by (N := Nm1) (sc := defScope sManyNext) (by decide +kernel))
          (fun _ _ _ _ _ => pg_name (i := 6) nd rfl (Or.inl rfl)) (fun _ _ _ _ _ => pts_one (pt_cmpR op_le (pv 6) (pv 3) (nomark _))) (fun _ _ _ _ _ => pe_ix (r := rIxL K) ix_list (pv 1) (pe_op op_sub (pv 3) (pv 6)) (fun _ _ => rfl)))
      (pss_one (ps_ret (pe_op op_add (pe_callB (cr_sum rfl) (by rfl) T.f_sum (by decide +kernel) (pa_cons (pv 4) pa_nil))
        (pe_callTy call_int1 (by rfl) T.f_int (by decide +kernel) (pa_cons (pe_cmpR op_eq (pv 3) (pe_ix ix_list (pv 2) (pe_un un_neg pe_int) (fun _ _ => rfl)) (nomark _)) pa_nil)))))), ?_⟩
    obtain ⟨dx, t, h1, h2⟩ := id ht
    refine ⟨_, rfl, tg, CT K, dx, _, .ref t, rfl, h1, T.cl, T.na, rfl, t, rfl, ⟨_, SqT.of h2⟩, fun D hD => ?_⟩
    have tD : t ≠ D := ne_of_none h2 hD
    refine lc_tup (K := K) (a := t) (xs := ns.map S) (fun i H2 => H2 = upd H D (.lst ((ns.take i).map fun a => V.int ((mk a).length : Int)))) rfl (fun i H2 _ z => by rw [z]; exact SqT.of (by rw [upd_ne tD]; exact h2)) ?_ ?_
    · rintro i x H2 hi rfl
      rw [List.getElem?_map] at hi
      obtain ⟨a, hia, rfl⟩ := Option.map_eq_some_iff.mp hi
      have la := (g.each a (List.mem_of_getElem? hia)).1
      refine ⟨rfl, _, rfl, mk a, rfl, lenS la (by decide), _, upd_same, ?_, ?_⟩
      · have e : sizeLine = 16777216 := sizeLine_eq
        have := g.l8
        rw [List.length_map, List.length_take]; omega
      · rw [upd_upd, map_take (fun a => V.int ((mk a).length : Int)) hia]
    · rintro H2 rfl
      rw [List.length_map, take_all, g.lens]
      have s1 := same_upd (o := .lst (lenL ns 8)) hD
      refine ⟨_, rfl, tb, _, rfl, .inl (SqL.of (s1 _ _ hb)), by show 2 ≤ sizeLine; decide, fun tp htp => ⟨tp, _, rfl, SqT.of upd_same, rfl, _, _, rfl, _, _, rfl, rfl, ?_⟩⟩
      rw [cntL_len]
      have s2 := same_upd (o := .tup [V.ref D, V.int (L : Int)]) htp
      have hD2 := s2 _ _ (upd_same (H := H) (a := D) (o := .lst (lenL ns 8)))
      have sA := s1.trans s2
      generalize upd (upd H D (.lst (lenL ns 8))) tp (.tup [V.ref D, V.int (L : Int)]) = H2 at hD2 sA ⊢
      refine ⟨_, rfl, _, rfl, _, rfl, D, _, rfl, SqL.of hD2, fun q hq => ⟨q, rfl, ⟨_, SqL.of upd_same⟩, fun D2 hE2 => ?_⟩⟩
      rw [show cutV (lenL ns 8) none (some (-1)) = lenL ns 7 from cut7 ns] at hE2 ⊢
      have s3 := same_upd (o := .lst (lenL ns 7)) hq
      have hq3 : (upd H2 q (.lst (lenL ns 7))) q = some (.lst (lenL ns 7)) := upd_same
      have sB := sA.trans s3
      have hD3 := s3 _ _ hD2
      generalize upd H2 q (.lst (lenL ns 7)) = H3 at hE2 hq3 sB hD3 ⊢
      have qD : q ≠ D2 := ne_of_none hq3 hE2
      have htb := sB _ _ hb
      have bD : tb ≠ D2 := ne_of_none htb hE2
      refine lc_list (K := K) (a := q) (xs := lenL ns 7) (fun i H' => H' = upd H3 D2 (.lst ((((List.range 7).take i).filter fun j => decide ((nmF ns j).length ≤ L)).map fun j => V.int ((cnt (nmF ns) (L - (nmF ns j).length) : Nat) : Int)))) rfl (fun i H' _ z => by rw [z]; exact SqL.of (by rw [upd_ne qD]; exact hq3)) ?_ ?_
      · rintro i x H' hi rfl
        rw [List.getElem?_map] at hi
        obtain ⟨j, hj, rfl⟩ := Option.map_eq_some_iff.mp hi
        have j7 : j < 7 := List.mem_range.mp (List.mem_of_getElem? hj)
        have pj := g.pos8 (i := j) (by omega)
        refine ⟨rfl, _, rfl, _, rfl, _, _, rfl, rfl, _, rfl, iteB (fun hb => ?_) (fun hb => ?_)⟩
        · have hle : (nmF ns j).length ≤ L := by have := of_decide_eq_true hb; omega
          have e1 : (L : Int) - ((nmF ns j).length : Int) = ((L - (nmF ns j).length : Nat) : Int) := by omega
          refine ⟨_, rfl, _, rfl, _, rfl, _, _, rfl, rfl, tb, _, _, _, rfl, rfl, SqL.of (by rw [upd_ne bD]; exact htb), by rw [e1]; exact at_cnt (by omega), _, upd_same, ?_, ?_⟩
          · exact len_take (xs := List.range 7) _ _ hj (n := 7) (by decide) (by decide)
          · rw [upd_upd, filter_take _ hj, if_pos (decide_eq_true hle), List.map_append]
            rfl
        · have hle : ¬ (nmF ns j).length ≤ L := by have := of_decide_eq_false hb; omega
          rw [filter_take _ hj, if_neg (by rw [decide_eq_false hle]; decide), List.append_nil]
      · rintro H' rfl
        rw [show (lenL ns 7).length = (List.range 7).length by rw [List.length_map], take_all]
        have s4 := same_upd (o := .lst (((List.range 7).filter fun j => decide ((nmF ns j).length ≤ L)).map fun j => V.int ((cnt (nmF ns) (L - (nmF ns j).length) : Nat) : Int))) hE2
        refine ⟨_, rfl, D2, ((List.range 7).filter fun j => decide ((nmF ns j).length ≤ L)).map fun j => ((cnt (nmF ns) (L - (nmF ns j).length) : Nat) : Int), rfl, SqL.of (by rw [upd_same, List.map_map]; rfl), ?_⟩
        refine ⟨_, rfl, _, rfl, _, rfl, D, _, -1, _, rfl, rfl, SqL.of (s4 _ _ hD3), at7 ns, rfl, .inr ⟨_, rfl, _, _, rfl, rfl, ?_⟩⟩
        have fin := many_sum g L (decide (V.int (L : Int) = V.int ((nmF ns 7).length : Int))) (by
          by_cases h : L = (nmF ns 7).length
          · rw [decide_eq_true h, decide_eq_true (by rw [h])]
          · rw [decide_eq_false h, decide_eq_false (fun z => h (by have := V.int.inj z; omega))])
        have e9 : (if decide (V.int (L : Int) = V.int ((nmF ns 7).length : Int)) = true then (1 : Int) else 0) = b2i (decide (V.int (L : Int) = V.int ((nmF ns 7).length : Int))) := rfl
        show Q (V.int (_ + (if decide (V.int (L : Int) = V.int ((nmF ns 7).length : Int)) = true then (1 : Int) else 0))) _
        rw [e9, fin]
        exact k _ (sB.trans s4)
/-! ### table_of -/
def spTable (K : PySem.W.Frag) : Sp := fun vs H Q _ => ∃ (tg : Addr) (ns : List (List Nat)) (m : Nat), vs = [.ref tg, .int (m : Int)] ∧ TongAt K H tg ns ∧ Good ns ∧ m ≤ 60 ∧
  ∀ (H' : Hp) (t : Addr), Same H H' → H' t = some (.lst (cntL ns (m + 1))) → Q (.ref t) H'
abbrev Nt1 : List Str := ["tongue", "most", "table", "_"]
theorem sc_table : FnScope Nt1 ["tongue", "most"] (defScope sTableOf) := ⟨rfl, rfl, rfl, by decide +kernel, rfl, by decide +kernel, by decide +kernel⟩
theorem ok_table (T : Tx K mg) : Cl P w K mg base 2 "table_of" ["tongue", "most"] (spTable K) := by
  obtain ⟨fd, F⟩ := T.d_table_of
  refine clD F T.g_table_of sc_table (fun _ _ _ _ _ _ us hl => match us, hl with | [_, _], _ => rfl) (fun vs H Q E h => ?_) (fun cdv A outer s H vs Q E hr h => ?_)
  · obtain ⟨tg, ns, m, rfl, _⟩ := h
    rfl
  · obtain ⟨tg, ns, m, rfl, ht, g, lm, k⟩ := h
    have nd := sc_table.nd
    refine ⟨_, pss_cons (ps_set (i := 2) nd rfl (Or.inl rfl) (pe_lst pa_nil))
      (pss_cons (ps_for PassesOwn.never rfl (pi_range1 (by rfl) T.f_range (pa_cons (pe_op op_add (pv 1) pe_int) pa_nil)) (pg_name (i := 3) nd rfl (Or.inl rfl))
        (pss_one (ps_expr (pe_bm PySem.F.plainAttrs_list PySem.F.slot_list_append PySem.F.type_list_append mt_append (pv 2) (pa_cons (pe_c (ok_many T) hr (by rfl) (pa_cons (pv 0) (pa_cons (pv 2) pa_nil))) pa_nil)))))
      (pss_one (ps_ret (pv 2)))), ?_⟩
    refine ⟨Nat.zero_le _, fun t ht0 => ?_⟩
    refine ⟨_, rfl, _, _, rfl, rfl, _, rfl, by omega, by omega, ?_⟩
    have s1 := same_upd (o := .lst []) ht0
    refine for_range (fun i σ' H' => ∃ a3 : Option V, σ' = [some (.ref tg), some (.int (m : Int)), some (.ref t), a3] ∧ Same H H' ∧ H' t = some (.lst (cntL ns i))) ⟨none, rfl, s1, upd_same⟩ ?_ ?_
    · rintro i σ H1 hi ⟨a3, rfl, sH, et⟩
      refine ⟨_, rfl, .inl ⟨rfl, _, SqL.of et⟩, _, rfl, _, rfl, tg, t, ns, i, rfl, ht.same sH, g, by omega, et, fun H2 s2 => ⟨t, _, _, rfl, rfl, s2 _ _ et, ?_, ?_⟩⟩
      · have e : sizeLine = 16777216 := sizeLine_eq
        rw [cntL_len]; omega
      · refine ⟨_, rfl, same_of_but ht0 (sH.trans s2) But.upd, ?_⟩
        rw [upd_same]
        show _ = some (HO.lst ((List.range (i + 1)).map _))
        rw [List.range_succ, List.map_append]
        rfl
    · rintro σ H1 ⟨a3, rfl, sH, et⟩
      rw [show ((m : Int) + 1).toNat = m + 1 by omega] at et
      exact ⟨_, rfl, k H1 t sH et⟩
/-! ### choices_of -/
/-- the pairs of a tongue at ch, ascending by name -/
structure Chs (ns : List (List Nat)) (H : Hp) (ch : Addr) (o : List Nat) (as : List Addr) : Prop where
  pm : o.Perm (List.range 8)
  so : o.Pairwise fun i j => lx (nmF ns i) (nmF ns j)
  hl : H ch = some (.lst (o.map fun i => V.ref (as.getD i 0)))
  hp : ∀ i, i < 8 → H (as.getD i 0) = some (.tup [S (nmF ns i), V.str (wd i)])
theorem Chs.same {ns : List (List Nat)} {H H' : Hp} {ch : Addr} {o : List Nat} {as : List Addr} (c : Chs ns H ch o as) (s : Same H H') : Chs ns H' ch o as :=
  ⟨c.pm, c.so, s _ _ c.hl, fun i hi => s _ _ (c.hp i hi)⟩
def spChoices (K : PySem.W.Frag) : Sp := fun vs H Q _ => ∃ (tg : Addr) (ns : List (List Nat)), vs = [.ref tg] ∧ TongAt K H tg ns ∧ Good ns ∧
  ∀ (H' : Hp) (p : Addr) (o : List Nat) (as : List Addr), Same H H' → Chs ns H' p o as → Q (.ref p) H'
theorem sc_choices : FnScope ["tongue"] ["tongue"] (defScope sChoicesOf) := ⟨rfl, rfl, rfl, by decide +kernel, rfl, by decide +kernel, by decide +kernel⟩
theorem ok_choices (T : Tx K mg) : Cl P w K mg base 1 "choices_of" ["tongue"] (spChoices K) := by
  obtain ⟨fd, F⟩ := T.d_choices_of
  obtain ⟨W, cv, hW⟩ := T.words
  refine clD F T.g_choices_of sc_choices (fun _ _ _ _ _ _ us hl => match us, hl with | [_], _ => rfl) (fun vs H Q E h => ?_) (fun cdv A outer s H vs Q E hr h => ?_)
  · obtain ⟨tg, ns, rfl, _⟩ := h
    rfl
  · obtain ⟨tg, ns, rfl, ht, g, k⟩ := h
    refine ⟨_, pss_one (ps_ret (pe_sortedZip rfl (pe_fld (pv 0) rfl) (ClX.pe_cval (pe_glob (v := .ref (CT K)) (by rfl) T.g_Tongue rfl)) (by rfl) T.f_sorted (by rfl) T.f_zip)), ?_⟩
    obtain ⟨dx, t, h1, h2⟩ := id ht
    have eS : ns.map S = (ns.map mk).map V.str := by rw [List.map_map]; rfl
    have en : ∀ i, i < 8 → (ns.map mk).getD i Str.empty = mk (nmF ns i) := fun i hi => by
      rw [List.getD_eq_getElem?_getD, List.getElem?_map, g.get hi]; rfl
    have ew : ∀ i, i < 8 → wds.getD i Str.empty = wd i := fun i hi => by
      have : i = 0 ∨ i = 1 ∨ i = 2 ∨ i = 3 ∨ i = 4 ∨ i = 5 ∨ i = 6 ∨ i = 7 := by omega
      rcases this with rfl | rfl | rfl | rfl | rfl | rfl | rfl | rfl <;> rfl
    refine ⟨_, rfl, tg, CT K, dx, _, .ref t, rfl, h1, T.cl, T.na, rfl, CT K, _, _, _, rfl, T.read, cv, t, W, ns.map mk, wds, 8, rfl, rfl, by rw [← eS]; exact SqT.of h2, hW _, by rw [List.length_map, g.l8], rfl, by decide, fun H' p as o s np la pm pw hl hp => ?_⟩
    have o8 : ∀ i, i ∈ o → i < 8 := fun i hi => List.mem_range.mp (pm.mem_iff.mp hi)
    refine k H' p o as s ⟨pm, ?_, hl, fun i hi => ?_⟩
    · refine (List.Pairwise.and pw (pm.nodup_iff.mpr List.nodup_range)).imp_of_mem fun {i j} hi hj h => ?_
      obtain ⟨h, ne⟩ := h
      have hi8 := o8 i hi
      have hj8 := o8 j hj
      rcases lx_total (a := nmF ns i) (b := nmF ns j) (fun e => ne (g.code.inj hi8 hj8 e)) with q | q
      · exact q
      · have b := (lex_false.mp h).1
        have e1 : ((ns.map mk).getD j Str.empty).cps.toList = nmF ns j := by rw [en j hj8]; rfl
        have e2 : ((ns.map mk).getD i Str.empty).cps.toList = nmF ns i := by rw [en i hi8]; rfl
        rw [e1, e2] at b
        have b' : decide (nmF ns j < nmF ns i) = false := b
        exact (of_decide_eq_false b' (lx_lt.mp q)).elim
    · rw [hp i hi, en i hi, ew i hi]
end
end K15

set_option Elab.async false
set_option linter.all false
set_option maxRecDepth 100000
set_option maxHeartbeats 8000000
namespace K15
open PySem PySem.Spec PyProof.Rows L2
section
variable {P : Program} {w : World} {K : PySem.W.Frag} {mg : Str → Option Value} {base : Heap}
/-- the rows of lesser lengths that a row is made of -/
def RowsFor (ns : List (List Nat)) (H : Hp) (kvs : List (Key × V)) (L : Nat) : Prop := ∀ i, i < 7 → (nmF ns i).length ≤ L → ∃ r : Addr, valV kvs (.inl ((L - (nmF ns i).length : Nat) : Int)) = some (.ref r) ∧ RowL H r (K15.P (nmF ns) (L - (nmF ns i).length))
theorem wd_end {j : Nat} (h : j < 8) : decide (V.str (wd j) = V.str "end") = decide (j = 7) := by
  have : j = 0 ∨ j = 1 ∨ j = 2 ∨ j = 3 ∨ j = 4 ∨ j = 5 ∨ j = 6 ∨ j = 7 := by omega
  rcases this with rfl | rfl | rfl | rfl | rfl | rfl | rfl | rfl <;> decide +kernel
theorem progs_but {H H' : Hp} {D : Addr} {xs : List V} (e : H D = some (.lst xs)) (b : But D H H') : ∀ {as : List Addr} {ps : List (List Nat)}, Paired (ProgAt H) as ps → Paired (ProgAt H') as ps
  | _, _, .nil => .nil
  | _, _, .cons h t => .cons (b _ _ h (ne_of h e (by intro z; cases z))) (progs_but e b t)
theorem RowL.ext {H1 : Hp} {r : Addr} {ps qs : List (List Nat)} {xs zs : List Addr} (e : H1 r = some (.lst (xs.map V.ref))) (p : Paired (ProgAt H1) xs ps) (p2 : Paired (ProgAt H1) zs qs) :
    RowL (upd H1 r (.lst (xs.map V.ref ++ zs.map V.ref))) r (ps ++ qs) :=
  ⟨xs ++ zs, by rw [upd_same, List.map_append], progs_but e But.upd (paired_app p p2)⟩
theorem row_le (N : Nat → List Nat) (o : List Nat) (R : Nat → List (List Nat)) (L i : Nat) : (rowAt N (o.take i) R L).length ≤ (rowAt N o R L).length := by
  have h := congrArg (fun o => (rowAt N o R L).length) (List.take_append_drop i o)
  have h' : (rowAt N (o.take i ++ o.drop i) R L).length = (rowAt N o R L).length := h
  unfold rowAt at h' ⊢
  rw [List.flatMap_append, List.length_append] at h'
  omega
theorem row_step (N : Nat → List Nat) {o : List Nat} {i j : Nat} (h : o[i]? = some j) (R : Nat → List (List Nat)) (L : Nat) :
    rowAt N (o.take (i + 1)) R L = (rowAt N (o.take i) R L ++ (if j = 7 ∧ (N j).length = L then [[]] else [])) ++ (if j ≠ 7 ∧ (N j).length ≤ L then (R (L - (N j).length)).map (j :: ·) else []) := by
  unfold rowAt
  rw [List.take_add_one, h, List.flatMap_append, List.append_assoc]
  congr 1
  show (blk N R L j ++ []) = _
  rw [List.append_nil]
  rfl
theorem P_512 {N : Nat → List Nat} {L : Nat} (h : L ≤ 9) : (K15.P N L).length ≤ 512 := by
  have h1 := P_len (N := N) L
  have h2 : 2 ^ L ≤ 2 ^ 9 := Nat.pow_le_pow_right (by decide) h
  omega
theorem paired_lenr {α β : Type} {F : α → β → Prop} {xs : List α} {ys : List β} (h : Paired F xs ys) {n : Nat} (hn : ys.length ≤ n) : xs.length ≤ n := by rw [paired_len h]; exact hn
def spRow (K : PySem.W.Frag) : Sp := fun vs H Q _ => ∃ (ch rw : Addr) (ns : List (List Nat)) (L : Nat) (o : List Nat) (as : List Addr) (kvs : List (Key × V)), vs = [.ref ch, .ref rw, .int (L : Int)] ∧ Good ns ∧ Chs ns H ch o as ∧ L ≤ 9 ∧ H rw = some (.dK kvs) ∧ RowsFor ns H kvs L ∧
  ∀ (H' : Hp) (r : Addr), Same H H' → RowL H' r (K15.P (nmF ns) L) → Q (.ref r) H'
abbrev Nr : List Str := ["choices", "rows", "length", "row", "name", "word", "rest"]
theorem sc_row : FnScope Nr ["choices", "rows", "length"] (defScope sRowAt) := ⟨rfl, rfl, rfl, by decide +kernel, rfl, by decide +kernel, by decide +kernel⟩
theorem ok_row (T : Tx K mg) : Cl P w K mg base 1 "row_at" ["choices", "rows", "length"] (spRow K) := by
  obtain ⟨fd, F⟩ := T.d_row_at
  obtain ⟨tk, gE⟩ := T.s_END
  refine clD F T.g_row_at sc_row (fun _ _ _ _ _ _ us hl => match us, hl with | [_, _, _], _ => rfl) (fun vs H Q E h => ?_) (fun cdv A outer s H vs Q E hr h => ?_)
  · obtain ⟨ch, rw, ns, L, o, as, kvs, rfl, _⟩ := h
    rfl
  · obtain ⟨ch, rw, ns, L, o, as, kvs, rfl, g, hc, lL, hw, hR, k⟩ := h
    have nd := sc_row.nd
    have hu1 : A.units + 1 < cLine ∨ True := .inr trivial
    refine ⟨_, pss_cons (ps_set (i := 3) nd rfl (Or.inl rfl) (pe_lst pa_nil))
      (pss_cons (ps_for PassesOwn.never rfl (pi_list (pv 0)) (pg_tup rfl (pgs_cons (pg_name (i := 4) nd rfl (Or.inl rfl)) (pgs_cons (pg_name (i := 5) nd rfl (Or.inr rfl)) pgs_nil)))
        (C8.pss_cut (ps_if (PW.pt (pw_and (pt_cmpR op_eq (pv 5) (pe_glob (v := .str "end") (by rfl) gE ⟨_, rfl⟩) (nomark _)) (pw_and1 (pt_cmpR op_eq (pe_callB call_len_str (by rfl) T.f_len PySem.boot_len (pa_cons (pv 4) pa_nil)) (pv 2) (nomark _)))))
            (pss_one (ps_expr (pe_bm PySem.F.plainAttrs_list PySem.F.slot_list_append PySem.F.type_list_append mt_append (pv 3) (pa_cons (pe_tup pa_nil) pa_nil)))) pss_nil)
        (pss_one (ps_if (PW.pt (pw_and (pt_cmpR op_ne (pv 5) (pe_glob (v := .str "end") (by rfl) gE ⟨_, rfl⟩) (nomark _)) (pw_and1 (pt_cmpR op_le (pe_callB call_len_str (by rfl) T.f_len PySem.boot_len (pa_cons (pv 4) pa_nil)) (pv 2) (nomark _)))))
            (pss_one (ps_expr (pe_bm PySem.F.plainAttrs_list PySem.F.slot_list_extend PySem.F.type_list_extend mt_extend (pv 3) (pa_cons
              (pe_lc (own := [("rest", 6)]) (g := gName 6) (tt := tYes) rfl nd (pi_list (pe_dget (Nat.lt_of_le_of_lt (Nat.add_le_add_left (by decide) _) hr.units) (pv 1) (pe_op op_sub (pv 2) (pe_callB call_len_str (by rfl) T.f_len PySem.boot_len (pa_cons (pv 4) pa_nil))) (fun _ _ => rfl)))
                (blkOk_by (N := Nr) (sc := defScope sRowAt) (by decide +kernel)) (fun _ _ _ _ _ => pg_name (i := 6) nd rfl (Or.inl rfl)) (fun _ _ _ _ _ => pts_nil)
                (fun _ _ _ _ _ => pe_op (r := rCatT K) op_catT (pe_tup (pa_cons (pv 5) pa_nil)) (pv 6))) pa_nil)))) pss_nil))))
      (pss_one (ps_ret (pv 3)))), ?_⟩
    have s1 := fun r hr0 => same_upd (H := H) (p := r) (o := .lst []) hr0
    have C := g.code
    refine ⟨Nat.zero_le _, fun r hr0 => ?_⟩
    refine ⟨_, rfl, ch, rfl, ⟨_, SqL.of (s1 r hr0 _ _ hc.hl)⟩, ?_⟩
    have eR : rowAt (nmF ns) o (K15.P (nmF ns)) L = K15.P (nmF ns) L := row_P C hc.pm hc.so L
    have big : ∀ i, (rowAt (nmF ns) (o.take i) (K15.P (nmF ns)) L).length ≤ 512 := fun i => Nat.le_trans (row_le _ _ _ _ _) (by rw [eR]; exact P_512 lL)
    refine for_list (K := K) (a := ch) (xs := o.map fun i => V.ref (as.getD i 0)) (fun i σ' H' => ∃ a4 a5 : Option V, σ' = [some (.ref ch), some (.ref rw), some (.int (L : Int)), some (.ref r), a4, a5, none] ∧ Same H H' ∧ RowL H' r (rowAt (nmF ns) (o.take i) (K15.P (nmF ns)) L))
      ⟨none, none, rfl, s1 r hr0, [], upd_same, .nil⟩ (fun i σ' H' _ z => by obtain ⟨_, _, _, sH, _⟩ := z; exact SqL.of (sH _ _ hc.hl)) ?_ ?_
    · rintro i x σ H1 hi ⟨a4, a5, rfl, sH, xs, er, pr⟩
      rw [List.getElem?_map] at hi
      obtain ⟨j, hj, rfl⟩ := Option.map_eq_some_iff.mp hi
      have j8 : j < 8 := List.mem_range.mp (hc.pm.mem_iff.mp (List.mem_of_getElem? hj))
      have lN : (nmF ns j).length ≤ 8 := g.short j8
      have bigi := big i
      have bigi1 := big (i + 1)
      rw [row_step _ hj, List.length_append, List.length_append] at bigi1
      refine ⟨as.getD j 0, _, rfl, SqT.of (sH _ _ (hc.hp j j8)), rfl, _, _, rfl, _, _, rfl, rfl, ?_⟩
      refine ⟨fun σ' H' => σ' = [some (.ref ch), some (.ref rw), some (.int (L : Int)), some (.ref r), some (S (nmF ns j)), some (.str (wd j)), none] ∧ Same H H' ∧ RowL H' r (rowAt (nmF ns) (o.take i) (K15.P (nmF ns)) L ++ (if j = 7 ∧ (nmF ns j).length = L then [[]] else [])), ?_, ?_⟩
      · -- the end
        have none_ : ¬ (j = 7 ∧ (nmF ns j).length = L) → RowL H1 r (rowAt (nmF ns) (o.take i) (K15.P (nmF ns)) L ++ (if j = 7 ∧ (nmF ns j).length = L then [[]] else [])) := fun c => by
          rw [if_neg c, List.append_nil]
          exact ⟨xs, er, pr⟩
        refine ⟨_, rfl, rfl, _, rfl, iteB (fun hb => ?_) (fun hb => ?_)⟩
        · rw [wd_end j8] at hb
          have h7 := of_decide_eq_true hb
          refine ⟨_, rfl, mk (nmF ns j), rfl, lenS lN (by decide), _, rfl, rfl, _, rfl, iteB (fun hb2 => ?_) (fun hb2 => ?_)⟩
          · have hL : (nmF ns j).length = L := by
              have := V.int.inj (of_decide_eq_true hb2)
              rw [mk_len] at this
              omega
            refine ⟨_, rfl, .inl ⟨rfl, _, SqL.of er⟩, Nat.zero_le _, fun q hq => ?_⟩
            have s2 := same_upd (o := .tup []) hq
            have er2 := s2 _ _ er
            refine ⟨r, _, _, rfl, rfl, er2, ?_, rfl, same_of_but hr0 (sH.trans s2) But.upd, ?_⟩
            · have e : sizeLine = 16777216 := sizeLine_eq
              have := paired_lenr pr bigi
              rw [List.length_map]; omega
            · rw [if_pos ⟨h7, hL⟩]
              exact RowL.ext (zs := [q]) (qs := [[]]) er2 (progs_same s2 pr) (.cons upd_same .nil)
          · have hL : ¬ (nmF ns j).length = L := fun z => by
              refine of_decide_eq_false hb2 ?_
              rw [mk_len, z]
            exact ⟨rfl, sH, none_ fun z => hL z.2⟩
        · rw [wd_end j8] at hb
          have h7 := of_decide_eq_false hb
          exact iteF ⟨rfl, sH, none_ fun z => h7 z.1⟩
      · rintro σ' H2 ⟨rfl, sH, xs, er, pr⟩
        have lxs := paired_len pr
        have none_ : ¬ (j ≠ 7 ∧ (nmF ns j).length ≤ L) → ∃ a4 a5 : Option V, [some (V.ref ch), some (.ref rw), some (.int (L : Int)), some (.ref r), some (S (nmF ns j)), some (.str (wd j)), none] = [some (.ref ch), some (.ref rw), some (.int (L : Int)), some (.ref r), a4, a5, none] ∧ Same H H2 ∧ RowL H2 r (rowAt (nmF ns) (o.take (i + 1)) (K15.P (nmF ns)) L) := fun c => by
          refine ⟨_, _, rfl, sH, xs, er, ?_⟩
          rw [row_step _ hj, if_neg c, List.append_nil]
          exact pr
        refine ⟨_, rfl, rfl, _, rfl, iteB (fun hb => ?_) (fun hb => ?_)⟩
        · rw [wd_end j8] at hb
          have h7 : j ≠ 7 := by simpa using hb
          refine ⟨_, rfl, mk (nmF ns j), rfl, lenS lN (by decide), _, rfl, _, _, rfl, rfl, _, rfl, iteB (fun hb2 => ?_) (fun hb2 => ?_)⟩
          · have hL : (nmF ns j).length ≤ L := by
              have := of_decide_eq_true hb2
              rw [mk_len] at this
              omega
            rw [if_pos (c := j ≠ 7 ∧ (nmF ns j).length ≤ L) ⟨h7, hL⟩, List.length_map] at bigi1
            rw [List.length_append] at lxs
            obtain ⟨rr, ev, ra, era, pra⟩ := hR j (by omega) hL
            refine ⟨_, rfl, .inl ⟨rfl, _, SqL.of er⟩, _, rfl, _, rfl, _, rfl, mk (nmF ns j), rfl, lenS lN (by decide), _, _, rfl, rfl, rw, .ref rr, rfl, ?_, rr, rfl, ⟨_, SqL.of (sH _ _ era)⟩, fun D hD => ?_⟩
            · have e1 : (L : Int) - ((nmF ns j).length : Int) = ((L - (nmF ns j).length : Nat) : Int) := by omega
              show DGet H2 rw (V.int ((L : Int) - ((mk (nmF ns j)).length : Int))) _
              rw [mk_len, e1, ← ev]
              exact DGet.k (k := .inl ((L - (nmF ns j).length : Nat) : Int)) (sH _ _ hw)
            · have rD : rr ≠ D := ne_of_none (sH _ _ era) hD
              have wordsQ : ∀ q ∈ K15.P (nmF ns) (L - (nmF ns j).length), q.length < 9 := fun q hq => by
                have := P_words C hq
                omega
              generalize hrs : K15.P (nmF ns) (L - (nmF ns j).length) = rs at pra bigi1 wordsQ
              have lra := paired_len pra
              refine lc_list (K := K) (a := rr) (xs := ra.map V.ref) (fun i H' => Same H2 H' ∧ ∃ zs : List Addr, H' D = some (.lst (zs.map V.ref)) ∧ Paired (ProgAt H') zs ((rs.take i).map (j :: ·))) ⟨same_upd hD, [], upd_same, .nil⟩ (fun i H' _ z => SqL.of (z.1 _ _ (sH _ _ era))) ?_ ?_
              · rintro m y H3 hm ⟨s3, zs, ez, pz⟩
                rw [List.getElem?_map] at hm
                obtain ⟨a, ha, rfl⟩ := Option.map_eq_some_iff.mp hm
                obtain ⟨q, hq, pa⟩ := paired_at pra ha
                have lq := wordsQ q (List.mem_of_getElem? hq)
                have lz := paired_len pz
                rw [List.length_map, List.length_take] at lz
                have fin : ∀ (H4 : Hp) (p : Addr), Same H3 H4 → H4 p = some (.tup ((j :: q).map fun i => V.str (wd i))) → ∃ acc, H4 D = some (.lst acc) ∧ acc.length < sizeLine ∧ (Same H2 (upd H4 D (.lst (acc ++ [V.ref p]))) ∧ ∃ zs : List Addr, (upd H4 D (.lst (acc ++ [V.ref p]))) D = some (.lst (zs.map V.ref)) ∧ Paired (ProgAt (upd H4 D (.lst (acc ++ [V.ref p])))) zs ((rs.take (m + 1)).map (j :: ·))) := fun H4 p s4 ep => by
                  have ez4 := s4 _ _ ez
                  refine ⟨_, ez4, ?_, same_of_but hD (s3.trans s4) But.upd, zs ++ [p], by rw [upd_same, List.map_append]; rfl, ?_⟩
                  · have e : sizeLine = 16777216 := sizeLine_eq
                    rw [List.length_map]; omega
                  · rw [map_take (fun q => j :: q) hq]
                    exact progs_but ez4 But.upd (paired_app (progs_same s4 pz) (.cons ep .nil))
                refine ⟨rfl, _, rfl, by show 1 ≤ sizeLine; decide, fun p1 hp1 => ?_⟩
                have s4 := same_upd (o := .tup [V.str (wd j)]) hp1
                refine ⟨_, rfl, p1, a, _, _, rfl, rfl, SqT.of upd_same, SqT.of (s4 _ _ (s3 _ _ (sH _ _ pa))), List.cons_ne_nil _ _, ?_, fun hnil => ?_, fun hne p2 hp2 => ?_⟩
                · have e : sizeLine = 16777216 := sizeLine_eq
                  rw [List.length_map]
                  show 1 + _ ≤ _
                  omega
                · have q0 : q = [] := List.map_eq_nil_iff.mp hnil
                  subst q0
                  exact fin _ p1 s4 upd_same
                · exact fin _ p2 (s4.trans (same_upd hp2)) upd_same
              · rintro H3 ⟨s3, zs, ez, pz⟩
                rw [List.length_map, lra, take_all] at pz
                have lz := paired_len pz
                rw [List.length_map] at lz
                have er3 := s3 _ _ er
                refine ⟨r, D, _, _, rfl, rfl, er3, ez, ?_, _, _, rfl, same_of_but hr0 (sH.trans s3) But.upd, ?_⟩
                · have e : sizeLine = 16777216 := sizeLine_eq
                  rw [List.length_map, List.length_map]
                  omega
                · rw [row_step _ hj, if_pos (c := j ≠ 7 ∧ (nmF ns j).length ≤ L) ⟨h7, hL⟩, hrs]
                  exact RowL.ext er3 (progs_same s3 pr) pz
          · have hL : ¬ (nmF ns j).length ≤ L := by
              have := of_decide_eq_false hb2
              rw [mk_len] at this
              omega
            exact none_ fun z => hL z.2
        · rw [wd_end j8] at hb
          have h7 : j = 7 := by simpa using hb
          exact iteF (none_ fun z => z.1 h7)
    · rintro σ H1 ⟨a4, a5, rfl, sH, row⟩
      rw [List.length_map, take_all, eR] at row
      exact ⟨_, rfl, k H1 r sH row⟩
end
end K15

set_option Elab.async false
set_option linter.all false
set_option maxRecDepth 100000
set_option maxHeartbeats 8000000
namespace K15
open PySem PySem.Spec PyProof.Rows L2
section
variable {P : Program} {w : World} {K : PySem.W.Frag} {mg : Str → Option Value} {base : Heap}
def spAll (K : PySem.W.Frag) : Sp := fun vs H Q _ => ∃ (tg : Addr) (ns : List (List Nat)) (L : Nat), vs = [.ref tg, .int (L : Int)] ∧ TongAt K H tg ns ∧ Good ns ∧ L ≤ 9 ∧
  ∀ (H' : Hp) (r : Addr), Same H H' → RowL H' r (K15.P (nmF ns) L) → Q (.ref r) H'
abbrev Na : List Str := ["tongue", "length", "choices", "wanted", "rows", "each", "name", "word"]
theorem sc_all : FnScope Na ["tongue", "length"] (defScope sAllOf) := ⟨rfl, rfl, rfl, by decide +kernel, rfl, by decide +kernel, by decide +kernel⟩
theorem hu_of {k : Nat} {A : Around} (hr : Room k A) : A.units + 1 < cLine := Nat.lt_of_le_of_lt (Nat.add_le_add_left (by decide) _) hr.units
abbrev HasK (kvs : List (Key × V)) (e : Nat) : Prop := (valV kvs (.inl (e : Int))).isSome = true
theorem has_put {kvs : List (Key × V)} {k e : Nat} {y : V} : HasK (putK kvs (.inl (k : Int)) y) e ↔ e = k ∨ HasK kvs e := by
  show (valV (putK kvs (.inl (k : Int)) y) (.inl (e : Int))).isSome = true ↔ _
  rw [valV_put]
  by_cases h : e = k
  · subst h; simp
  · rw [if_neg (fun z => h (by have := Sum.inl.inj z; omega))]
    simp [h]
/-- what is wanted: the length, and with each length from lo on the lesser ones -/
structure Wants (ns : List (List Nat)) (L : Nat) (kvs : List (Key × V)) (lo n : Nat) : Prop where
  few : kvs.length ≤ n
  top : HasK kvs L
  low : ∀ e, HasK kvs e → e ≤ L
  cl : ∀ e, HasK kvs e → lo ≤ e → ∀ j, j < 7 → (nmF ns j).length ≤ e → HasK kvs (e - (nmF ns j).length)
theorem RowL.upd {H : Hp} {r a : Addr} {ps : List (List Nat)} {kvs : List (Key × V)} {o : HO} (h : RowL H r ps) (e : H a = some (.dK kvs)) : RowL (upd H a o) r ps := by
  obtain ⟨xs, h1, h2⟩ := h
  have progs : ∀ {as : List Addr} {ps : List (List Nat)}, Paired (ProgAt H) as ps → Paired (ProgAt (L2.upd H a o)) as ps := fun {as ps} q => by
    induction q with
    | nil => exact .nil
    | cons h t ih => exact .cons (by show L2.upd H a o _ = _; rw [upd_ne (ne_of h e (by intro z; cases z))]; exact h) ih
  exact ⟨xs, by rw [upd_ne (ne_of h1 e (by intro z; cases z))]; exact h1, progs h2⟩
theorem Chs.upd {ns : List (List Nat)} {H : Hp} {ch a : Addr} {o : List Nat} {as : List Addr} {kvs : List (Key × V)} {u : HO} (c : Chs ns H ch o as) (e : H a = some (.dK kvs)) : Chs ns (upd H a u) ch o as :=
  ⟨c.pm, c.so, by rw [upd_ne (ne_of c.hl e (by intro z; cases z))]; exact c.hl, fun i hi => by rw [upd_ne (ne_of (c.hp i hi) e (by intro z; cases z))]; exact c.hp i hi⟩
theorem ok_all (T : Tx K mg) : Cl P w K mg base 2 "all_of" ["tongue", "length"] (spAll K) := by
  obtain ⟨fd, F⟩ := T.d_all_of
  obtain ⟨tk, gE⟩ := T.s_END
  refine clD F T.g_all_of sc_all (fun _ _ _ _ _ _ us hl => match us, hl with | [_, _], _ => rfl) (fun vs H Q E h => ?_) (fun cdv A outer s H vs Q E hr h => ?_)
  · obtain ⟨tg, ns, L, rfl, _⟩ := h
    rfl
  · obtain ⟨tg, ns, L, rfl, ht, g, lL, k⟩ := h
    have nd := sc_all.nd
    refine ⟨_, pss_cons (ps_par3 (by rfl) nd (i := 2) (j := 3) (l := 4) rfl rfl rfl (by decide) (by decide) (by decide) rfl rfl rfl
        (pa_cons (pe_c (ok_choices T) hr (by rfl) (pa_cons (pv 0) pa_nil)) (pa_cons (pe_disp (pps_cons (pv 1) pe_bl pps_nil) rfl rfl (by intro z; cases z) (by decide)) (pa_cons pe_dnewK pa_nil))) (by rfl))
      (pss_cons (ps_for PassesOwn.never rfl (pi_range3 (by rfl) T.f_range (pa_cons (pv 1) (pa_cons (pe_un un_neg pe_int) (pa_cons (pe_un un_neg pe_int) pa_nil)))) (pg_name (i := 5) nd rfl (Or.inl rfl))
        (pss_one (ps_for PassesOwn.never rfl (pi_list (pv 2)) (pg_tup rfl (pgs_cons (pg_name (i := 6) nd rfl (Or.inl rfl)) (pgs_cons (pg_name (i := 7) nd rfl (Or.inl rfl)) pgs_nil)))
          (pss_one (ps_if (PW.pt (pw_and (pt_cmp (pc_din (hu_of hr) (pv 5) (pv 3))) (pw_and (pt_cmpR op_ne (pv 7) (pe_glob (v := .str "end") (by rfl) gE ⟨_, rfl⟩) (nomark _))
              (pw_and1 (pt_cmpR op_le (pe_callB call_len_str (by rfl) T.f_len PySem.boot_len (pa_cons (pv 6) pa_nil)) (pv 5) (nomark _))))))
            (pss_one (ps_dput (hu_of hr) (pv 3) (pe_op op_sub (pv 5) (pe_callB call_len_str (by rfl) T.f_len PySem.boot_len (pa_cons (pv 6) pa_nil))) pe_bl rfl)) pss_nil)))))
      (pss_cons (ps_for PassesOwn.never rfl (pi_range1 (by rfl) T.f_range (pa_cons (pe_op op_add (pv 1) pe_int) pa_nil)) (pg_name (i := 5) nd rfl (Or.inl rfl))
        (pss_one (ps_if (pt_cmp (pc_din (hu_of hr) (pv 5) (pv 3))) (pss_one (ps_dput (hu_of hr) (pv 4) (pv 5) (pe_c (ok_row T) hr (by rfl) (pa_cons (pv 2) (pa_cons (pv 4) (pa_cons (pv 5) pa_nil)))) rfl)) pss_nil)))
      (pss_one (ps_ret (pe_dget (hu_of hr) (pv 4) (pv 1) (fun _ _ => rfl)))))), ?_⟩
    refine ⟨_, rfl, tg, ns, rfl, ht, g, fun H1 ch o as s1 hc1 => ?_⟩
    refine fun wn hwn => ⟨_, rfl, upd_same, [(.inl (L : Int), .bl true)], rfl, by show 1 ≤ 15; decide, fun rw hrw => ⟨_, _, _, rfl, ?_⟩⟩
    rw [upd_upd] at hrw ⊢
    rw [show mergeK [] [((.inl (L : Int) : Key), V.bl true)] = [(.inl (L : Int), .bl true)] from rfl] at hrw ⊢
    have s2 := same_upd (o := .dK [((.inl (L : Int) : Key), V.bl true)]) hwn
    have s3 := same_upd (o := .dK []) hrw
    have nwn : H wn = none := s1.free hwn
    have nrw : H rw = none := s1.free (s2.free hrw)
    have wr : wn ≠ rw := ne_of_none upd_same hrw
    have W0 : Wants ns L [((.inl (L : Int) : Key), V.bl true)] (L + 1) 1 := by
      have one : ∀ e : Nat, HasK [((.inl (L : Int) : Key), V.bl true)] e → e = L := fun e he => by
        by_cases h : (Sum.inl (L : Int) : Key) = .inl (e : Int)
        · have := Sum.inl.inj h; omega
        · have he' : (valV [((.inl (L : Int) : Key), V.bl true)] (.inl (e : Int))).isSome = true := he
          rw [valV_neg h] at he'
          cases he'
      refine ⟨Nat.le_refl _, ?_, fun e he => Nat.le_of_eq (one e he), fun e he lo => ?_⟩
      · show (valV _ _).isSome = true
        rw [valV_pos rfl]
        rfl
      · have := one e he; omega
    refine ⟨_, rfl, _, rfl, _, rfl, (L : Int), -1, -1, _, rfl, RgC.neg (by omega) (by omega) (by decide) (by decide), ?_⟩
    rw [show ((L : Int) - -1).toNat = L + 1 by omega]
    refine for_rangeC (fun i σ' H' => ∃ (kvs : List (Key × V)) (a5 a6 a7 : Option V), σ' = [some (.ref tg), some (.int (L : Int)), some (.ref ch), some (.ref wn), some (.ref rw), a5, a6, a7] ∧ Same H H' ∧ Chs ns H' ch o as ∧ H' wn = some (.dK kvs) ∧ H' rw = some (.dK []) ∧ Wants ns L kvs (L + 1 - i) (1 + 8 * i))
      ⟨_, none, none, none, rfl, (s1.trans s2).trans s3, (hc1.same s2).same s3, s3 _ _ upd_same, upd_same, W0⟩ ?_ ?_
    · rintro i σ H2 hi ⟨kvs, a5, a6, a7, rfl, sH, hc, ew, er, W⟩
      obtain ⟨e, he⟩ : ∃ e : Nat, L - i = e := ⟨_, rfl⟩
      have ei : (L : Int) + (i : Nat) * -1 = (e : Int) := by omega
      have el : L + 1 - i = e + 1 := by omega
      rw [ei]
      rw [el] at W
      have el2 : L + 1 - (i + 1) = e := by omega
      refine ⟨_, rfl, ch, rfl, ⟨_, SqL.of hc.hl⟩, ?_⟩
      refine for_list (K := K) (a := ch) (xs := o.map fun i => V.ref (as.getD i 0)) (fun m σ' H' => ∃ (kvs : List (Key × V)) (a6 a7 : Option V), σ' = [some (.ref tg), some (.int (L : Int)), some (.ref ch), some (.ref wn), some (.ref rw), some (.int (e : Int)), a6, a7] ∧ Same H H' ∧ Chs ns H' ch o as ∧ H' wn = some (.dK kvs) ∧ H' rw = some (.dK []) ∧ Wants ns L kvs (e + 1) (1 + 8 * i + m) ∧
          (HasK kvs e → ∀ j, j ∈ o.take m → j < 7 → (nmF ns j).length ≤ e → HasK kvs (e - (nmF ns j).length)))
        ⟨kvs, a6, a7, rfl, sH, hc, ew, er, W, fun _ j hj => nomatch hj⟩ (fun m σ' H' _ z => by obtain ⟨_, _, _, _, _, hc, _⟩ := z; exact SqL.of hc.hl) ?_ ?_
      · rintro m x σ H3 hm ⟨kvs, a6, a7, rfl, sH, hc, ew, er, W, cm⟩
        rw [List.getElem?_map] at hm
        obtain ⟨j, hj, rfl⟩ := Option.map_eq_some_iff.mp hm
        have j8 : j < 8 := List.mem_range.mp (hc.pm.mem_iff.mp (List.mem_of_getElem? hj))
        have lN : (nmF ns j).length ≤ 8 := g.short j8
        have pN := g.pos8 j8
        have more : Wants ns L kvs (e + 1) (1 + 8 * i + (m + 1)) := ⟨Nat.le_trans W.few (by omega), W.top, W.low, W.cl⟩
        refine ⟨as.getD j 0, _, rfl, SqT.of (hc.hp j j8), rfl, _, _, rfl, _, _, rfl, rfl, ?_⟩
        have skip : (HasK kvs e → j < 7 → (nmF ns j).length ≤ e → HasK kvs (e - (nmF ns j).length)) → ∃ (kvs : List (Key × V)) (a6 a7 : Option V), [some (V.ref tg), some (.int (L : Int)), some (.ref ch), some (.ref wn), some (.ref rw), some (.int (e : Int)), some (S (nmF ns j)), some (.str (wd j))] = [some (.ref tg), some (.int (L : Int)), some (.ref ch), some (.ref wn), some (.ref rw), some (.int (e : Int)), a6, a7] ∧ Same H H3 ∧ Chs ns H3 ch o as ∧ H3 wn = some (.dK kvs) ∧ H3 rw = some (.dK []) ∧ Wants ns L kvs (e + 1) (1 + 8 * i + (m + 1)) ∧
          (HasK kvs e → ∀ j, j ∈ o.take (m + 1) → j < 7 → (nmF ns j).length ≤ e → HasK kvs (e - (nmF ns j).length)) := fun c => by
          refine ⟨kvs, _, _, rfl, sH, hc, ew, er, more, fun h j' hj' h7 hl => ?_⟩
          rw [List.take_add_one, hj] at hj'
          rcases List.mem_append.mp hj' with h' | h'
          · exact cm h j' h' h7 hl
          · rw [List.mem_singleton.mp h'] at h7 hl ⊢
            exact c h h7 hl
        refine ⟨_, rfl, _, rfl, wn, _, rfl, DGet.k (k := .inl (e : Int)) ew, _, rfl, iteB (fun hb => ?_) (fun hb => ?_)⟩
        · have he' : HasK kvs e := hb
          have el' := W.low e he'
          refine ⟨_, rfl, rfl, _, rfl, iteB (fun hb => ?_) (fun hb => ?_)⟩
          · rw [wd_end j8] at hb
            have h7 : j ≠ 7 := by simpa using hb
            refine ⟨_, rfl, mk (nmF ns j), rfl, lenS lN (by decide), _, rfl, _, _, rfl, rfl, _, rfl, iteB (fun hb2 => ?_) (fun hb2 => ?_)⟩
            · have hL : (nmF ns j).length ≤ e := by
                have := of_decide_eq_true hb2
                rw [mk_len] at this
                omega
              have e1 : (e : Int) - ((mk (nmF ns j)).length : Int) = ((e - (nmF ns j).length : Nat) : Int) := by rw [mk_len]; omega
              refine ⟨_, rfl, _, rfl, _, rfl, mk (nmF ns j), rfl, lenS lN (by decide), _, _, rfl, rfl, wn, upd H3 wn (.dK (putK kvs (.inl ((e - (nmF ns j).length : Nat) : Int)) (.bl true))), rfl, ?_, ?_⟩
              · show DPut H3 wn (V.int ((e : Int) - ((mk (nmF ns j)).length : Int))) (.bl true) _
                rw [e1]
                refine DPut.k (k := .inl ((e - (nmF ns j).length : Nat) : Int)) ew ?_
                have e9 : sizeLine = 16777216 := sizeLine_eq
                have := W.few
                have : m < 8 := by have := (List.getElem?_eq_some_iff.mp hj).1; rw [hc.pm.length_eq, List.length_range] at this; exact this
                omega
              · refine ⟨_, _, _, rfl, same_of_but nwn sH But.upd, hc.upd ew, upd_same, by rw [upd_ne wr.symm]; exact er, ⟨?_, has_put.mpr (.inr W.top), fun e' h' => ?_, fun e' h' lo j' h7' hl' => ?_⟩, fun h' j' hj' h7' hl' => ?_⟩
                · have := length_putK kvs (.inl ((e - (nmF ns j).length : Nat) : Int)) (.bl true)
                  have := W.few
                  omega
                · rcases has_put.mp h' with q | q
                  · omega
                  · exact W.low e' q
                · rcases has_put.mp h' with q | q
                  · omega
                  · exact has_put.mpr (.inr (W.cl e' q lo j' h7' hl'))
                · rw [List.take_add_one, hj] at hj'
                  rcases List.mem_append.mp hj' with q | q
                  · exact has_put.mpr (.inr (cm he' j' q h7' hl'))
                  · rw [List.mem_singleton.mp q]
                    exact has_put.mpr (.inl rfl)
            · have hL : ¬ (nmF ns j).length ≤ e := by
                have := of_decide_eq_false hb2
                rw [mk_len] at this
                omega
              exact skip fun _ _ z => (hL z).elim
          · rw [wd_end j8] at hb
            have h7 : j = 7 := by simpa using hb
            exact iteF (skip fun _ z _ => by omega)
        · have he' : ¬ HasK kvs e := fun z => by
            have z' : (valV kvs (.inl (e : Int))).isSome = true := z
            have hb' : (valV kvs (.inl (e : Int))).isSome = false := hb
            rw [hb'] at z'
            cases z'
          exact iteF (skip fun z => (he' z).elim)
      · rintro σ H3 ⟨kvs, a6, a7, rfl, sH, hc, ew, er, W, cm⟩
        have lo8 : o.length = 8 := by rw [hc.pm.length_eq, List.length_range]
        rw [List.length_map, take_all] at cm
        rw [List.length_map, lo8] at W
        refine ⟨kvs, _, _, _, rfl, sH, hc, ew, er, ⟨Nat.le_trans W.few (by omega), W.top, W.low, fun e' h' lo j h7 hl => ?_⟩⟩
        rw [el2] at lo
        by_cases q : e' = e
        · subst q
          exact cm h' j (hc.pm.mem_iff.mpr (List.mem_range.mpr (by omega))) h7 hl
        · exact W.cl e' h' (by omega) j h7 hl
    · rintro σ H2 ⟨kvs, a5, a6, a7, rfl, sH, hc, ew, er, W⟩
      rw [Nat.sub_self] at W
      refine ⟨_, rfl, _, _, rfl, rfl, _, rfl, by omega, by omega, ?_⟩
      rw [show ((L : Int) + 1).toNat = L + 1 by omega]
      refine for_range (fun i σ' H' => ∃ (rk : List (Key × V)) (a5 : Option V), σ' = [some (.ref tg), some (.int (L : Int)), some (.ref ch), some (.ref wn), some (.ref rw), a5, a6, a7] ∧ Same H H' ∧ Chs ns H' ch o as ∧ H' wn = some (.dK kvs) ∧ H' rw = some (.dK rk) ∧ rk.length ≤ i ∧
          (∀ e, e < i → HasK kvs e → ∃ r : Addr, valV rk (.inl (e : Int)) = some (.ref r) ∧ RowL H' r (K15.P (nmF ns) e)))
        ⟨[], a5, rfl, sH, hc, ew, er, Nat.le_refl _, fun e z => (Nat.not_lt_zero _ z).elim⟩ ?_ ?_
      · rintro i σ H3 hi ⟨rk, a5, rfl, sH, hc, ew, er, lk, rows⟩
        rw [show (0 : Int) + (i : Nat) = (i : Int) by omega]
        refine ⟨_, rfl, _, rfl, wn, _, rfl, DGet.k (k := .inl (i : Int)) ew, _, rfl, iteB (fun hb => ?_) (fun hb => ?_)⟩
        · have he : HasK kvs i := hb
          refine ⟨_, rfl, _, rfl, _, rfl, ch, rw, ns, i, o, as, rk, rfl, g, hc, by omega, er, fun j h7 hl => ?_, fun H4 r s4 row => ?_⟩
          · have := g.pos8 (i := j) (by omega)
            exact rows _ (by omega) (W.cl i he (Nat.zero_le _) j h7 hl)
          · have er4 := s4 _ _ er
            refine ⟨_, rfl, _, rfl, rw, _, rfl, DPut.k (k := .inl (i : Int)) er4 ?_, putK rk (.inl (i : Int)) (.ref r), _, rfl, same_of_but nrw (sH.trans s4) But.upd, (hc.same s4).upd er4, by rw [upd_ne wr]; exact s4 _ _ ew, upd_same, ?_, fun e le he' => ?_⟩
            · have e9 : sizeLine = 16777216 := sizeLine_eq
              omega
            · have := length_putK rk (.inl (i : Int)) (.ref r)
              omega
            · rw [valV_put]
              by_cases q : e = i
              · subst q
                exact ⟨r, by rw [if_pos rfl], row.upd er4⟩
              · obtain ⟨r', h1, h2⟩ := rows e (by omega) he'
                exact ⟨r', by rw [if_neg (fun z => q (by have := Sum.inl.inj z; omega))]; exact h1, (h2.same s4).upd er4⟩
        · have he : ¬ HasK kvs i := fun z => by
            have z' : (valV kvs (.inl (i : Int))).isSome = true := z
            have hb' : (valV kvs (.inl (i : Int))).isSome = false := hb
            rw [hb'] at z'
            cases z'
          refine ⟨rk, _, rfl, sH, hc, ew, er, by omega, fun e le he' => ?_⟩
          by_cases q : e = i
          · subst q; exact (he he').elim
          · exact rows e (by omega) he'
      · rintro σ H3 ⟨rk, a5, rfl, sH, hc, ew, er, lk, rows⟩
        obtain ⟨r, h1, h2⟩ := rows L (by omega) W.top
        refine ⟨_, rfl, _, rfl, rw, .ref r, rfl, ?_, k H3 r sH h2⟩
        rw [← h1]
        exact DGet.k (k := .inl (L : Int)) er
end
end K15

set_option Elab.async false
set_option linter.all false
set_option maxRecDepth 100000
set_option maxHeartbeats 8000000
namespace K15
open PySem PySem.Spec PyProof.Rows L2
section
variable {P : Program} {w : World} {K : PySem.W.Frag} {mg : Str → Option Value} {base : Heap}
/-! ### calls with keywords alone -/
structure ClK (P : Program) (w : World) (K : PySem.W.Frag) (mg : Str → Option Value) (base : Heap) (k : Nat) (x : Str) (ps : List Str) (sp : Sp) : Prop where
  ex : ∃ f fd, FnOk P w K mg base CX0 k f fd ps sp ∧ Binds K fd ps [] ∧ KBn K fd ps 0 ps (fun _ ws => ws) (fun _ zs => zs) ∧ PySem.W.keepIn K (.ref f) = true ∧ mg x = some (.ref f)
theorem ClK.cl {k : Nat} {x : Str} {ps : List Str} {sp : Sp} (c : ClK P w K mg base k x ps sp) : Cl P w K mg base k x ps sp := by
  obtain ⟨f, fd, F, b, _, kp, g⟩ := c
  exact ⟨f, fd, F, b, kp, g⟩
theorem clK {x : Str} {params : Arguments} {body : List Stmt} {scope : Scope} {f : Addr} {fd : FuncData} {N ps : List Str} {k : Nat} {sp : Sp} (F : FunD K x x params body scope [] [] f fd) (g : mg x = some (.ref f)) (S : FnScope N ps scope)
    (bd : ∀ (kV doc pm : Value) (an : Option Addr) (cdv ct : Value) (us : List Value), us.length = ps.length → bindArgs (PySem.W.fnOf x x params body scope .none kV doc pm an cdv ct) ⟨us, []⟩ = pure (ps.zip us))
    (bk : ∀ (kV doc pm : Value) (an : Option Addr) (cdv ct : Value) (ws : List Value), ws.length = ps.length → bindArgs (PySem.W.fnOf x x params body scope .none kV doc pm an cdv ct) ⟨[], ps.zip ws⟩ = pure (ps.zip ws))
    (len : ∀ vs H Q E, sp vs H Q E → vs.length = ps.length)
    (walk : ∀ (cdv : Value) (A : Around) (outer : List Env) (s : Shared) (H : Hp) (vs : List V) (Q : VK) (E : XK), Room k (A.deeper (envOfC x scope s.heap.objs.size f cdv)) → sp vs H Q E →
      ∃ t, PSs (cxOf CX0 P w K mg base N x scope f cdv A outer s H E).nox body t ∧ t { nx := fun _ H' => Q .non H', rt := Q } (start N vs) H) : ClK P w K mg base (k + 1) x ps sp := by
  refine ⟨f, fd, okD F S len walk, F.bindsN bd, ⟨fun s us ws _ l1 l2 => ?_, fun _ rz => rz⟩, F.kp, g⟩
  obtain rfl : us = [] := List.length_eq_zero_iff.mp l1
  obtain ⟨oc, od, dV, kV, doc, pm, an, cdv, ct, osl, rfl, lk, hcd, hD, hK⟩ := F.ex
  rcases hD with ⟨_, rfl⟩ | ⟨e, _⟩
  · exact .of_eq (bk kV doc pm an cdv ct ws l2)
  · exact absurd rfl e
section
variable {X : Cx} {k : Nat} {x : Str} {ps : List Str} {sp : Sp} {p pos : Pos} {kws : List Keyword} {tk : TA}
def tCallW (m : Nat) (sp : Sp) (tk : TA) : TE := fun σ H Q => tk σ H fun zs H2 => zs.length = m ∧ sp zs H2 Q E0
theorem pe_ck (c : ClK X.prog X.w X.K X.mg X.base k x ps sp) (hr : Room k X.A) (hg : Gl X x) (hkw : PK X kws tk) (hall : (backToKw pos (keywordEach kws X.env)).all (·.1.isSome) = true := by rfl) (hks : (backToKw pos (keywordEach kws X.env)).filterMap (·.1) = ps := by rfl)
    (hdb : (x == ("__debug__" : Str)) = false := by decide)
    (hpl : ((backTo pos (starEach [] X.env)).any (·.1) || (backToKw pos (keywordEach kws X.env)).any (·.1.isNone)) = false := by rfl) :
    PE X (.Call (.Name x p) [] kws pos) (tCallW ps.length sp tk) := by
  obtain ⟨f, fd, F, b, kb, kp, g⟩ := c
  refine ⟨fun pins s σ H Q I h => ?_⟩
  refine wpAny_Call_Name_kw (ld_glob I hg g ?_ hdb)
  refine PySem.W.callWith_KW0 (h₀ := X.base) I.ok.mod.kin kp hall (thn (hkw.run pos pins s σ H _ I h) fun ws s2 ⟨zs, H2, I2, rz, l2, q2⟩ => ⟨I2.kIn, ?_⟩) hpl
  rw [hks]
  exact run_fnN (us := []) (vs := []) F hr kb pass0 I2 .nil rz rfl l2 q2
end
theorem TongAt.ins {H : Hp} {p : Addr} {ns : List (List Nat)} (h : TongAt K H p ns) : ∃ dx fs, H p = some (.ins (CT K) dx fs) := by
  obtain ⟨dx, t, h1, _⟩ := h
  exact ⟨dx, _, h1⟩
def spHow (K : PySem.W.Frag) : Sp := fun vs H Q _ => ∃ (tg : Addr) (ns : List (List Nat)) (L : Nat), vs = [.ref tg, .int (L : Int)] ∧ TongAt K H tg ns ∧ Good ns ∧ L ≤ 9 ∧
  ∀ H', Same H H' → Q (.int (cnt (nmF ns) L : Nat)) H'
theorem sc_how : FnScope ["tongue", "length"] ["tongue", "length"] (defScope sHowMany) := ⟨rfl, rfl, rfl, by decide +kernel, rfl, by decide +kernel, by decide +kernel⟩
theorem ok_how (T : Tx K mg) : ClK P w K mg base 4 "how_many" ["tongue", "length"] (spHow K) := by
  obtain ⟨fd, F⟩ := T.d_how_many
  obtain ⟨tk, gM⟩ := T.i_MOST_LENGTH
  refine clK F T.g_how_many sc_how (fun _ _ _ _ _ _ us hl => match us, hl with | [_, _], _ => rfl) (fun _ _ _ _ _ _ us hl => match us, hl with | [_, _], _ => rfl) (fun vs H Q E h => ?_) (fun cdv A outer s H vs Q E hr h => ?_)
  · obtain ⟨tg, ns, L, rfl, _⟩ := h
    rfl
  · obtain ⟨tg, ns, L, rfl, ht, g, lL, k⟩ := h
    have hr1 : Room 1 _ := hr.mono (by decide)
    have hr2 : Room 2 _ := hr.mono (by decide)
    refine ⟨_, pss_cons (ps_expr (pe_ct (ok_need_tongue T) hr1 (by rfl) (pa_cons (pv 0) pa_nil)))
      (pss_cons (ps_expr (pe_c (ok_need_number T) hr (by rfl) (pa_cons (pv 1) (pa_cons pe_str (pa_cons pe_int (pa_cons (pe_glob (v := .int 400) (by rfl) gM ⟨_, rfl⟩) pa_nil))))))
      (pss_one (ps_ret (pe_ix ix_list (pe_c (ok_table T) hr2 (by rfl) (pa_cons (pv 0) (pa_cons (pv 1) pa_nil))) (pv 1) (fun _ _ => rfl))))), ?_⟩
    refine ⟨_, rfl, tg, _, rfl, ht.ins, ?_⟩
    refine ⟨_, rfl, (L : Int), 0, 400, _, rfl, by omega, by omega, ?_⟩
    refine ⟨_, rfl, _, rfl, tg, ns, L, rfl, ht, g, by omega, fun H1 t s1 et => ⟨_, rfl, t, _, _, _, rfl, rfl, SqL.of et, at_cnt (Nat.lt_succ_self L), k H1 s1⟩⟩
def spProgs (K : PySem.W.Frag) : Sp := fun vs H Q _ => ∃ (tg : Addr) (ns : List (List Nat)) (L : Nat), vs = [.ref tg, .int (L : Int)] ∧ TongAt K H tg ns ∧ Good ns ∧ L ≤ 9 ∧
  ∀ (H' : Hp) (r : Addr), Same H H' → RowT H' r (K15.P (nmF ns) L) → Q (.ref r) H'
theorem sc_progs : FnScope ["tongue", "length"] ["tongue", "length"] (defScope sProgramsOf) := ⟨rfl, rfl, rfl, by decide +kernel, rfl, by decide +kernel, by decide +kernel⟩
theorem ok_progs (T : Tx K mg) : ClK P w K mg base 4 "programs_of" ["tongue", "length"] (spProgs K) := by
  obtain ⟨fd, F⟩ := T.d_programs_of
  obtain ⟨tk, gM⟩ := T.i_MOST_LISTED
  obtain ⟨tk2, gP⟩ := T.i_MOST_PROGRAMS
  refine clK F T.g_programs_of sc_progs (fun _ _ _ _ _ _ us hl => match us, hl with | [_, _], _ => rfl) (fun _ _ _ _ _ _ us hl => match us, hl with | [_, _], _ => rfl) (fun vs H Q E h => ?_) (fun cdv A outer s H vs Q E hr h => ?_)
  · obtain ⟨tg, ns, L, rfl, _⟩ := h
    rfl
  · obtain ⟨tg, ns, L, rfl, ht, g, lL, k⟩ := h
    have hr1 : Room 1 _ := hr.mono (by decide)
    have hr2 : Room 2 _ := hr.mono (by decide)
    refine ⟨_, pss_cons (ps_expr (pe_ct (ok_need_tongue T) hr1 (by rfl) (pa_cons (pv 0) pa_nil)))
      (pss_cons (ps_expr (pe_c (ok_need_number T) hr (by rfl) (pa_cons (pv 1) (pa_cons pe_str (pa_cons pe_int (pa_cons (pe_glob (v := .int 40) (by rfl) gM ⟨_, rfl⟩) pa_nil))))))
      (pss_cons (ps_if (pt_cmpR op_gt (pe_ix ix_list (pe_c (ok_table T) hr2 (by rfl) (pa_cons (pv 0) (pa_cons (pv 1) pa_nil))) (pv 1) (fun _ _ => rfl)) (pe_glob (v := .int 2000) (by rfl) gP ⟨_, rfl⟩) (nomark _)) (pss_one ps_never) pss_nil)
      (pss_one (ps_ret (pe_callTy call_tuple_of (by rfl) T.f_tuple (by decide +kernel) (pa_cons (pe_c (ok_all T) hr2 (by rfl) (pa_cons (pv 0) (pa_cons (pv 1) pa_nil))) pa_nil)))))), ?_⟩
    refine ⟨_, rfl, tg, _, rfl, ht.ins, ?_⟩
    refine ⟨_, rfl, (L : Int), 0, 40, _, rfl, by omega, by omega, ?_⟩
    have few : cnt (nmF ns) L ≤ 512 := P_512 lL
    refine ⟨_, rfl, _, rfl, tg, ns, L, rfl, ht, g, by omega, fun H1 t s1 et => ⟨_, rfl, t, _, _, _, rfl, rfl, SqL.of et, at_cnt (Nat.lt_succ_self L), _, _, rfl, rfl, _, rfl, iteB (fun hb => ?_) (fun hb => ?_)⟩⟩
    · have := of_decide_eq_true hb
      omega
    · refine ⟨_, rfl, _, rfl, tg, ns, L, rfl, ht.same s1, g, lL, fun H2 r s2 row => ?_⟩
      obtain ⟨xs, er, pr⟩ := row
      refine ⟨r, _, rfl, .inl ⟨SqL.of er, fun q hq => ?_⟩⟩
      have s3 := same_upd (o := .tup (xs.map V.ref)) hq
      exact k _ q ((s1.trans s2).trans s3) ⟨xs, upd_same, progs_same s3 pr⟩
end
end K15

set_option Elab.async false
set_option linter.all false
set_option maxRecDepth 100000
set_option maxHeartbeats 8000000
namespace K15
open PySem PySem.Spec PyProof.Rows L2
section
variable {P : Program} {w : World} {K : PySem.W.Frag} {mg : Str → Option Value} {base : Heap}
def spLaw (K : PySem.W.Frag) : Sp := fun vs H Q _ => ∃ (a : Addr) (ns : List Int), vs = [.ref a] ∧ SqL K H a (ns.map V.int) ∧ ns.length ≤ 63 ∧ ∀ H', Q (.bl true) H'
abbrev Nl : List Str := ["_law_script", "_law_ewer_here", "_law_names_here", "_law_tongue", "_law_lengths", "_law_length", "_law_due", "_law_number", "_law_program", "_law_told"]
theorem sc_law : FnScope Nl ["_law_script"] (defScope sLaw) := ⟨rfl, rfl, rfl, by decide +kernel, rfl, by decide +kernel, by decide +kernel⟩
theorem atTop_nox {f : Addr} {fd : FuncData} {k : Nat} {x : Str} {params : Arguments} {body : List Stmt} {scope : Scope} {N ps : List Str} {sp : Sp} (F : FunD K x x params body scope [] [] f fd) (S : FnScope N ps scope) (hr : Room (k + 1) callerA)
    (hb : ∀ (s : Shared) (us : List Value), us.length = ps.length → BindsTo s fd ⟨us, []⟩ (ps.zip us)) (len : ∀ vs H Q E, sp vs H Q E → vs.length = ps.length)
    (walk : ∀ (A : Around) (s : Shared) (H : Hp) (vs : List V) (Q : VK) (cdv : Value), A = callerA → (cxOf CX0 P w K mg base N x scope f cdv A [] s H E0).nox.A.guards = some [] → Room k (A.deeper (envOfC x scope s.heap.objs.size f cdv)) → sp vs H Q E0 →
      ∃ t, PSs (cxOf CX0 P w K mg base N x scope f cdv A [] s H E0).nox body t ∧ t { nx := fun _ H' => Q .non H', rt := Q } (start N vs) H) : AtTop P w K mg base f sp :=
  atTop_of F S hr hb len fun X s H vs Q cdv hX hgd hr h => by
    subst hX
    obtain ⟨t, p1, p2⟩ := walk callerA s H vs Q cdv rfl hgd hr h
    exact ⟨t, p1.nox, p2⟩
theorem wd_ok (i : Nat) : (wd i).cps.all (· < 0x110000) = true := by
  have e : ∀ z ∈ wds, z.cps.all (· < 0x110000) = true := by decide +kernel
  have e2 : (Str.ofString "say").cps.all (· < 0x110000) = true := by decide +kernel
  unfold wd
  rw [List.getD_eq_getElem?_getD]
  cases h : wds[i]? with
  | none => exact e2
  | some z => exact e z (List.mem_of_getElem? h)
theorem lay_progs (ps : List (List Nat)) : (dProgs ps).canLay0 = true := by
  show PyData.canLay0 (.tuple _) = true
  simp only [PyData.canLay0]
  refine layAll_of fun d hd => ?_
  obtain ⟨p, _, rfl⟩ := List.mem_map.mp hd
  show PyData.canLay0 (.tuple _) = true
  simp only [PyData.canLay0]
  refine layAll_of fun d hd => ?_
  obtain ⟨i, _, rfl⟩ := List.mem_map.mp hd
  simp only [PyData.canLay0]
  exact wd_ok i
theorem shaped_progs (ps : List (List Nat)) : SeqAt.shaped (dProgs ps) = true := by
  unfold SeqAt.shaped
  exact Bool.and_eq_true_iff.mpr ⟨lay_progs ps, decide_eq_true (Nat.le_trans (progs_show ps).2.2 (by decide))⟩
theorem eqv_progs (ps : List (List Nat)) : PyData.eqv (dProgs ps) (dProgs ps) = true := SeqAt.eqv_refl _ (lay_progs ps)
theorem log_small {n : Nat} (h : n ≤ 512) : ((n : Int)).natAbs.log2 < 1920 := by
  have := Nat.log2_le_self n
  rw [Int.natAbs_natCast]
  omega
theorem pow_512 {L : Nat} (h : L ≤ 9) : 2 ^ L ≤ 512 := Nat.pow_le_pow_right (n := 2) (by decide) h
/-- the programs among the first texts -/
abbrev dueL (ns : List (List Nat)) (L i : Nat) : List (List Nat) := ((List.range i).map fun n => sgn n L).filterMap (cut (nmF ns))
theorem due_all (ns : List (List Nat)) (L : Nat) : dueL ns L (2 ^ L) = K15.P (nmF ns) L := by
  show ((List.range (2 ^ L)).map fun n => sgn n L).filterMap (cut (nmF ns)) = _
  rw [sgn_T]
  rfl
theorem due_none {ns : List (List Nat)} {L i : Nat} (h : cut (nmF ns) (sgn i L) = none) : dueL ns L (i + 1) = dueL ns L i := by
  show ((List.range (i + 1)).map fun n => sgn n L).filterMap (cut (nmF ns)) = _
  rw [List.range_succ, List.map_append, List.filterMap_append]
  simp [h]
theorem due_some {ns : List (List Nat)} {L i : Nat} {p : List Nat} (h : cut (nmF ns) (sgn i L) = some p) : dueL ns L (i + 1) = dueL ns L i ++ [p] := by
  show ((List.range (i + 1)).map fun n => sgn n L).filterMap (cut (nmF ns)) = _
  rw [List.range_succ, List.map_append, List.filterMap_append]
  simp [h]
theorem due_len (ns : List (List Nat)) (L i : Nat) : (dueL ns L i).length ≤ i := by
  refine Nat.le_trans (List.length_filterMap_le _ _) ?_
  rw [List.length_map, List.length_range]
  exact Nat.le_refl _
theorem ok_law (T : Tx K mg) (dl : ∃ fd, FunD K "law" "law" (defArgs sLaw) (defBody sLaw) (defScope sLaw) [] [] (He.ga K "law") fd) : AtTop P w K mg base (He.ga K "law") (spLaw K) := by
  obtain ⟨fd, F⟩ := dl
  obtain ⟨fdI, FI, bI⟩ := ok_init (P := P) (w := w) (base := base) T
  refine atTop_nox (k := 4) F sc_law ⟨rfl, by decide, by decide⟩ (F.bindsA fun _ _ _ _ _ _ us hl => match us, hl with | [_], _ => rfl) (fun vs H Q E h => ?_) (fun A s H vs Q cdv hA hgd hr h => ?_)
  · obtain ⟨a, ns, rfl, _⟩ := h
    rfl
  · obtain ⟨a, ns, rfl, hS, hl, k⟩ := h
    have nd := sc_law.nd
    have hr1 : Room 1 _ := hr.mono (by decide)
    have hr2 : Room 2 _ := hr.mono (by decide)
    have hr3 : Room 3 _ := hr.mono (by decide)
    refine ⟨_,
      pss_cons (ps_set (i := 1) nd rfl (Or.inl rfl) (pe_c (ok_ewer T) hr1 (by rfl) (pa_cons (pv 0) pa_nil)))
      (pss_cons (ps_set (i := 2) nd rfl (Or.inl rfl) (pe_c (ok_names T) hr3 (by rfl) (pa_cons (pv 1) pa_nil)))
      (pss_cons (ps_set (i := 3) nd rfl (Or.inl rfl) (pe_make T.mkT FI hr (by rfl) T.g_Tongue bI .nil pass0 (pa_cons (pv 2) pa_nil)))
      (pss_cons (ps_set (i := 4) nd rfl (Or.inl rfl) (pe_lst (pa_cons (pe_c (ok_sip T) hr1 (by rfl) (pa_cons (pv 1) (pa_cons pe_int pa_nil))) (pa_cons (pe_c (ok_pick T) hr2 (by rfl) (pa_cons (pv 1) (pa_cons (pe_lst (pa_cons pe_int (pa_cons pe_int (pa_cons pe_int (pa_cons pe_int (pa_cons pe_int pa_nil)))))) pa_nil))) pa_nil))))
      (pss_cons (ps_for PassesOwn.never rfl (pi_list (pv 4)) (pg_name (i := 5) nd rfl (Or.inl rfl))
        (pss_cons (ps_set (i := 6) nd rfl (Or.inl rfl) (pe_lst pa_nil))
        (pss_cons (ps_for PassesOwn.never rfl (pi_range1 (by rfl) T.f_range (pa_cons (pe_op op_shl pe_int (pv 5)) pa_nil)) (pg_name (i := 7) nd rfl (Or.inl rfl))
          (pss_cons (ps_set (i := 8) nd rfl (Or.inl rfl) (pe_c (ok_cut T) hr1 (by rfl) (pa_cons (pv 2) (pa_cons (pe_c (ok_signs T) hr1 (by rfl) (pa_cons (pv 7) (pa_cons (pv 5) pa_nil))) pa_nil))))
          (pss_one (ps_if (pt_cmpR op_notN (pv 8) pe_non (nomark _)) (pss_one (ps_expr (pe_bm PySem.F.plainAttrs_list PySem.F.slot_list_append PySem.F.type_list_append mt_append (pv 6) (pa_cons (pv 8) pa_nil)))) pss_nil))))
        (pss_cons (ps_set (i := 9) nd rfl (Or.inl rfl) (pe_c (ok_progs T).cl hr (by rfl) (pa_cons (pv 3) (pa_cons (pv 5) pa_nil))))
        (pss_one (ps_if (PW.pt (pw_or (pt_cmpR op_ne (pe_callB (call_reprD hgd hr.units) (by rfl) T.f_repr (by decide +kernel) (pa_cons (pv 9) pa_nil))
              (pe_callB (call_reprD hgd hr.units) (by rfl) T.f_repr (by decide +kernel) (pa_cons (pe_callTy call_tuple_of (by rfl) T.f_tuple (by decide +kernel) (pa_cons (pv 6) pa_nil)) pa_nil)) (nomark _))
            (pw_or1 (pt_cmpR op_ne (pe_callB SkE.call_repr_int (by rfl) T.f_repr (by decide +kernel) (pa_cons (pe_ck (ok_how T) hr (by rfl) (pk_cons (pv 3) (pk_cons (pv 5) pk_nil))) pa_nil))
              (pe_callB SkE.call_repr_int (by rfl) T.f_repr (by decide +kernel) (pa_cons (pe_callB call_len_seq (by rfl) T.f_len PySem.boot_len (pa_cons (pv 6) pa_nil)) pa_nil)) (nomark _)))))
          (pss_one (ps_ret pe_bl)) pss_nil))))))
      (pss_one (ps_ret (pe_cmpR (op_eqD hr.units) (pe_ck (ok_progs T) hr (by rfl) (pk_cons (pv 3) (pk_cons (pe_ix ix_list (pv 4) pe_int (fun _ _ => rfl)) pk_nil)))
        (pe_c (ok_progs T).cl hr (by rfl) (pa_cons (pv 3) (pa_cons (pe_ix ix_list (pv 4) pe_int (fun _ _ => rfl)) pa_nil))) (nomark _)))))))), ?_⟩
    refine ⟨_, rfl, a, ns, rfl, hS, hl, fun H1 e c s1 ne ew => ?_⟩
    refine ⟨_, rfl, e, c, 0, rfl, ew, by decide, by decide, fun nms f t2 H2 g nf hf en2 q0 q1 => ?_⟩
    refine ⟨_, rfl, fun tg dx htg hdx ntd => ⟨tg, dx, f, nms, rfl, upd_same, ?_, g, fun H4 t bu h1 h2 => ⟨rfl, ?_⟩⟩⟩
    · rw [upd_ne (ne_of_none hf htg), upd_ne (ne_of_none hf hdx)]
      exact hf
    have s4 : Same H2 H4 := fun b o q => bu b o (by rw [upd_ne (ne_of_none q htg), upd_ne (ne_of_none q hdx)]; exact q) (ne_of_none q htg)
    have ht : TongAt K H4 tg nms := ⟨dx, t, h1, h2⟩
    have hf4 := s4 _ _ hf
    have ew4 := en2.ew.same s4
    refine ⟨_, rfl, e, c, t2, 7, rfl, ew4, by omega, by omega, by decide, by decide, fun v t3 H5 v0 v1 q2 q3 bu5 ew5 => ?_⟩
    have fe : f ≠ e := ew4.apart hf4
    have ht5 : TongAt K H5 tg nms := by
      obtain ⟨l, ms, g1, g2, _⟩ := id ew4
      exact ht.but bu5 g1
    have hf5 := bu5 _ _ hf4 fe
    refine ⟨_, rfl, by show 5 ≤ sizeLine; decide, fun q hq => ?_⟩
    have s6 := same_upd (o := .lst [V.int 7, V.int 7, V.int 8, V.int 8, V.int 9]) hq
    have ew6 := ew5.same s6
    have qe : q ≠ e := by
      obtain ⟨l, ms, g1, g2, _⟩ := id ew5
      exact (ne_of_none g1 hq).symm
    refine ⟨e, c, q, t3, _, rfl, qe, ew6, by omega, by omega, upd_same, by decide, by decide, fun x t4 H7 hx q4 q5 bu7 ew7 => ?_⟩
    have ht7 : TongAt K H7 tg nms := by
      obtain ⟨l, ms, g1, g2, _⟩ := id ew6
      exact (ht5.same s6).but bu7 g1
    have hf7 := bu7 _ _ (s6 _ _ hf5) fe
    obtain ⟨L1, rfl, b1⟩ : ∃ L1 : Nat, x = V.int (L1 : Int) ∧ L1 ≤ 9 := by
      simp only [List.mem_cons, List.not_mem_nil, or_false] at hx
      rcases hx with h | h | h | h | h
      · exact ⟨7, h, by decide⟩
      · exact ⟨7, h, by decide⟩
      · exact ⟨8, h, by decide⟩
      · exact ⟨8, h, by decide⟩
      · exact ⟨9, h, by decide⟩
    obtain ⟨L0, rfl⟩ : ∃ L0 : Nat, v = (L0 : Int) := ⟨v.toNat, (Int.toNat_of_nonneg v0).symm⟩
    have b0 : L0 ≤ 9 := by omega
    refine ⟨by show 2 ≤ sizeLine; decide, fun ll hll => ?_⟩
    have s8 := same_upd (o := .lst [V.int (L0 : Int), V.int (L1 : Int)]) hll
    have ht8 := ht7.same s8
    have hf8 := s8 _ _ hf7
    have el : (upd H7 ll (.lst [V.int (L0 : Int), V.int (L1 : Int)])) ll = some (.lst [V.int (L0 : Int), V.int (L1 : Int)]) := upd_same
    generalize upd H7 ll (.lst [V.int (L0 : Int), V.int (L1 : Int)]) = H8 at ht8 hf8 el ⊢
    refine ⟨_, rfl, ll, rfl, ⟨_, SqL.of el⟩, ?_⟩
    refine for_list (K := K) (a := ll) (xs := [V.int (L0 : Int), V.int (L1 : Int)]) (fun i σ' H' => ∃ a5 a6 a7 a8 a9 : Option V, σ' = [some (.ref a), some (.ref e), some (.ref f), some (.ref tg), some (.ref ll), a5, a6, a7, a8, a9] ∧ Same H8 H')
      ⟨none, none, none, none, none, rfl, fun _ _ z => z⟩ (fun i σ' H' _ z => by obtain ⟨_, _, _, _, _, _, z⟩ := z; exact SqL.of (z _ _ el)) ?_ ?_
    · rintro i x σ H9 hi ⟨a5, a6, a7, a8, a9, rfl, s9⟩
      obtain ⟨L, rfl, bL⟩ : ∃ L : Nat, x = V.int (L : Int) ∧ L ≤ 9 := by
        have hm := List.mem_of_getElem? hi
        simp only [List.mem_cons, List.not_mem_nil, or_false] at hm
        rcases hm with h | h
        · exact ⟨L0, h, b0⟩
        · exact ⟨L1, h, b1⟩
      have p9 := pow_512 bL
      refine ⟨Nat.zero_le _, fun d hd => ?_⟩
      have nd8 : H8 d = none := s9.free hd
      have s10 := s9.trans (same_upd (o := .lst []) hd)
      have e2L : (1 : Int) * 2 ^ (L : Int).toNat = ((2 ^ L : Nat) : Int) := by
        rw [Int.one_mul, Int.toNat_natCast]
        norm_cast
      have hlo : (-(2 ^ 62) : Int) ≤ ((2 ^ L : Nat) : Int) := Int.le_trans (by decide) (Int.natCast_nonneg _)
      have hhi : ((2 ^ L : Nat) : Int) < 2 ^ 62 := Int.lt_of_le_of_lt (Int.ofNat_le.mpr p9) (by decide)
      refine ⟨_, rfl, _, _, rfl, rfl, ⟨by omega, by omega, by decide⟩, _, rfl, by rw [e2L]; exact hlo, by rw [e2L]; exact hhi, ?_⟩
      rw [e2L, Int.toNat_natCast]
      refine for_range (fun m σ' H' => ∃ a7 a8 : Option V, σ' = [some (.ref a), some (.ref e), some (.ref f), some (.ref tg), some (.ref ll), some (.int (L : Int)), some (.ref d), a7, a8, a9] ∧ Same H8 H' ∧ RowL H' d (dueL nms L m))
        ⟨a7, a8, rfl, s10, [], upd_same, .nil⟩ ?_ ?_
      · rintro m σ H10 hm ⟨a7, a8, rfl, sm, xs, ed, pd⟩
        have e0 : (0 : Int) + (m : Nat) = (m : Int) := by omega
        rw [e0]
        refine ⟨_, rfl, _, rfl, _, rfl, m, L, rfl, by omega, fun H11 s11 => ?_⟩
        refine ⟨f, nms, sgn m L, rfl, s11 _ _ (sm _ _ hf8), g, by rw [sgn_len]; omega, fun v H12 s12 told => ?_⟩
        have sA := (sm.trans s11).trans s12
        have ed2 := s12 _ _ (s11 _ _ ed)
        have pd2 := progs_same s12 (progs_same s11 pd)
        have ld := paired_len pd
        have ld2 := due_len nms L m
        cases hc : cut (nmF nms) (sgn m L) with
        | none =>
          rw [hc] at told
          have ev : v = .non := told
          subst ev
          refine ⟨_, rfl, rfl, _, rfl, iteB (fun hb => absurd hb (by decide)) (fun _ => ⟨_, _, rfl, sA, xs, ed2, by rw [due_none hc]; exact pd2⟩)⟩
        | some p =>
          rw [hc] at told
          obtain ⟨r, rfl, nr, pr⟩ := told
          refine ⟨_, rfl, rfl, _, rfl, iteB (fun _ => ?_) (fun hb => by simp at hb)⟩
          refine ⟨_, rfl, .inl ⟨rfl, _, SqL.of ed2⟩, _, rfl, d, _, _, rfl, rfl, ed2, ?_, _, _, rfl, same_of_but nd8 sA But.upd, ?_⟩
          · have e9 : sizeLine = 16777216 := sizeLine_eq
            rw [List.length_map]; omega
          · rw [due_some hc]
            exact RowL.ext (zs := [r]) ed2 pd2 (.cons pr .nil)
      · rintro σ H10 ⟨a7, a8, rfl, sm, row⟩
        rw [due_all] at row
        refine ⟨_, rfl, _, rfl, tg, nms, L, rfl, ht8.same sm, g, bL, fun H11 r s11 told => ?_⟩
        have sB := sm.trans s11
        have few : (K15.P (nmF nms) L).length ≤ 512 := P_512 bL
        have wl : ∀ p ∈ K15.P (nmF nms) L, p.length ≤ 100 := fun p hp => by
          have := P_words g.code hp
          omega
        obtain ⟨h1, h2, h3⟩ := progs_show (K15.P (nmF nms) L)
        have h4 := progs_short (Nat.le_trans few (by decide)) wl
        refine ⟨_, rfl, r, dProgs (K15.P (nmF nms) L), rfl, rowT_data told, h1, h2, h3, h4, ?_⟩
        obtain ⟨xs, ed, pd⟩ := row.same s11
        refine ⟨_, rfl, d, _, rfl, .inl ⟨SqL.of ed, fun tq htq => ?_⟩⟩
        have s12 := same_upd (o := .tup (xs.map V.ref)) htq
        refine ⟨tq, dProgs (K15.P (nmF nms) L), rfl, rowT_data (K := K) ⟨xs, upd_same, progs_same s12 pd⟩, h1, h2, h3, h4, rfl, _, rfl, iteB (fun hb => ?_) (fun _ => ?_)⟩
        · exact absurd hb (by simp)
        · refine ⟨_, rfl, _, rfl, rfl, tg, nms, L, rfl, (ht8.same sB).same s12, g, bL, fun H13 s13 => ?_⟩
          refine ⟨_, rfl, log_small few, _, rfl, d, _, rfl, .inl (SqL.of (s13 _ _ (s12 _ _ ed))), _, rfl, ?_, rfl, _, rfl, iteB (fun hb => ?_) (fun _ => ?_)⟩
          · rw [List.length_map, paired_len pd]; exact log_small few
          · rw [List.length_map, paired_len pd] at hb
            exact absurd hb (by simp [cnt])
          · exact ⟨_, _, _, _, _, rfl, (sB.trans s12).trans s13⟩
    · rintro σ H9 ⟨a5, a6, a7, a8, a9, rfl, s9⟩
      have at0 : atI [V.int (L0 : Int), V.int (L1 : Int)] 0 = some (V.int (L0 : Int)) := atI_nat (j := 0) rfl
      refine ⟨_, rfl, _, rfl, ll, _, 0, _, rfl, rfl, SqL.of (s9 _ _ el), at0, rfl, tg, nms, L0, rfl, ht8.same s9, g, b0, fun H10 r s10 row => ?_⟩
      refine ⟨_, rfl, _, rfl, ll, _, 0, _, rfl, rfl, SqL.of (s10 _ _ (s9 _ _ el)), at0, tg, nms, L0, rfl, (ht8.same s9).same s10, g, b0, fun H11 r2 s11 row2 => ?_⟩
      refine ⟨_, _, rowT_data (row.same s11), rowT_data row2, shaped_progs _, shaped_progs _, ?_⟩
      rw [eqv_progs]
      exact k H11
end
end K15

set_option Elab.async false
set_option linter.all false
set_option maxRecDepth 100000
set_option maxHeartbeats 0
namespace K15
open PySem PySem.Spec PyProof.Rows L2
theorem run (w : World) : HandSHeadRun.RunEq R (PySem.W.view R.prog [44]) hk ob 4000 loose w := by
  intro os
  kernel_rfl
end K15

set_option Elab.async false
set_option linter.all false
set_option maxRecDepth 100000
set_option maxHeartbeats 0
namespace K15
open PySem PySem.Spec PyProof.Rows L2
theorem final {P : Program} {w : World} {K : PySem.W.Frag} {mg : Str → Option Value} {f : Addr} {h : Heap} (KX : K.In h) (G : h.Ns mainGlobals mg) (c : SaysK K) (hmg : mg ("law" : Str) = some (.ref f)) (base : Heap) : AtTop P w K mg base f (spLaw K) := by
  have T : Tx K mg := ⟨c, h, KX, G⟩
  have e := hmg.symm.trans T.g_law
  cases e
  exact ok_law T T.d_law
end K15
open PySem PyProof.Rows PySem.W PySem.Calls
theorem PySem.Challenge.cw_duetickers_k15_whole_all_texts_of_a_leng_holds : PySem.Challenge.rw_duetickers_k15_whole_all_texts_of_a_leng.Holds := by
  w_on; o_law
  refine HandSHeadRun.head_any (r := OpenLaw.row PySem.Challenge.rw_duetickers_k15_whole_all_texts_of_a_leng) (q := view (OpenLaw.row PySem.Challenge.rw_duetickers_k15_whole_all_texts_of_a_leng).prog [44]) (H := K15.hk) (ob := K15.ob) (M := 4000) (loose := K15.loose) (d := HandSHeadRun.topDef (OpenLaw.row PySem.Challenge.rw_duetickers_k15_whole_all_texts_of_a_leng).prog 44) (kwd := []) K15.ob_eq
    (by kernel_rfl) (fun s => by kernel_rfl) K15.run (by kernel_rfl) (by kernel_rfl) (by kernel_rfl) (by rfl) (by first | assumption | decide +kernel) (by decide +kernel) ⟨rfl, rfl, rfl, rfl, rfl, by decide +kernel⟩ ?hw ?hc
  case hw => w_witness2
  case hc =>
    refine K15.walk_top (l := PySem.Challenge.rw_duetickers_k15_whole_all_texts_of_a_leng) (n := 63) rfl (by decide) (by kernel_rfl) ?F
    intro w mg f h Y G hmg0
    obtain ⟨K, KX, c⟩ := Y
    have hmg : mg ("law" : PySem.Str) = some (.ref f) := by
      have e : (HandSHeadRun.topDef (OpenLaw.row PySem.Challenge.rw_duetickers_k15_whole_all_texts_of_a_leng).prog 44).name = ("law" : PySem.Str) := by kernel_rfl
      rw [← e]
      exact hmg0
    exact ⟨K, K15.spLaw K, KX, fun H a ns hl hS => ⟨a, ns, rfl, hS, hl, fun _ => rfl⟩, fun base _ _ => K15.final KX G c hmg base⟩
