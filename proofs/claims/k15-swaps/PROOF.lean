import PyProof.Rows.All
import Wide.All
import OpenK.AllK
import Wide.FinOn
import HandS.ForMost
import HandS.Walk
import KE.GoesEnum
import HandS.Deep
import KE.DataFind
import HandS.TupSets
import KE.SortData
import KE.KDictPairs
import KE.KDictWalk
import KE.KDictKeyed
import KE.KDictSum
import HandS.IsInst
import HandS.TupLe
import HandS.TupAny
import KE.KStateDown
import HandS.Head0
import HandS.Head1
import HandS.Head2
import HandS.HeadEnd
import HandS.HeadHook1
import PySem.Challenge.RW_meetsets_k15_whole_swaps_lead_anywhere
set_option Elab.async false
set_option linter.all false
set_option maxRecDepth 100000
/-! The plain law: full families of sets of points 0 .. n-1, sets as rising lists of ints. No program in sight. -/
namespace MS
abbrev S := List Int

/-! ### lists -/
theorem ext_of_pw {α : Type} {R : α → α → Prop} (as : ∀ a b, R a b → R b a → False) : ∀ {l m : List α}, l.Pairwise R → m.Pairwise R → (∀ x, x ∈ l ↔ x ∈ m) → l = m
  | [], [], _, _, _ => rfl
  | [], y :: m, _, _, h => absurd ((h y).mpr List.mem_cons_self) (by simp)
  | x :: l, [], _, _, h => absurd ((h x).mp List.mem_cons_self) (by simp)
  | x :: l, y :: m, hl, hm, h => by
    obtain ⟨hx, hl'⟩ := List.pairwise_cons.mp hl
    obtain ⟨hy, hm'⟩ := List.pairwise_cons.mp hm
    have e : x = y := by
      rcases List.mem_cons.mp ((h x).mp List.mem_cons_self) with e | e
      · exact e
      · rcases List.mem_cons.mp ((h y).mpr List.mem_cons_self) with e' | e'
        · exact e'.symm
        · exact (as x y (hx y e') (hy x e)).elim
    subst e
    have e2 : l = m := ext_of_pw as hl' hm' fun z => by
      constructor
      · intro hz
        rcases List.mem_cons.mp ((h z).mp (List.mem_cons_of_mem _ hz)) with e | e
        · subst e
          exact (as z z (hx z hz) (hx z hz)).elim
        · exact e
      · intro hz
        rcases List.mem_cons.mp ((h z).mpr (List.mem_cons_of_mem _ hz)) with e | e
        · subst e
          exact (as z z (hy z hz) (hy z hz)).elim
        · exact e
    rw [e2]
theorem nodup_of_pw {α : Type} {R : α → α → Prop} (ir : ∀ a, ¬ R a a) {l : List α} (h : l.Pairwise R) : l.Nodup :=
  List.Pairwise.imp (S := fun a b => a ≠ b) (fun {a b} r (e : a = b) => ir a (by rw [← e] at r; exact r)) h
theorem filter_single {α : Type} {p : α → Bool} {o : α} : ∀ {l : List α}, l.Nodup → o ∈ l → (∀ t ∈ l, p t = true ↔ t = o) → l.filter p = [o]
  | [], _, h, _ => absurd h (by simp)
  | x :: l, hn, ho, h => by
    obtain ⟨hx, hn'⟩ := List.nodup_cons.mp hn
    by_cases e : x = o
    · subst e
      rw [List.filter_cons_of_pos ((h x List.mem_cons_self).mpr rfl)]
      have : l.filter p = [] := List.filter_eq_nil_iff.mpr fun t ht q => hx (by
        have := (h t (List.mem_cons_of_mem _ ht)).mp q
        subst this
        exact ht)
      rw [this]
    · have ho' : o ∈ l := by
        rcases List.mem_cons.mp ho with z | z
        · exact absurd z.symm e
        · exact z
      rw [List.filter_cons_of_neg (fun q => e ((h x List.mem_cons_self).mp q))]
      exact filter_single hn' ho' fun t ht => h t (List.mem_cons_of_mem _ ht)

/-! ### sets -/
def good (n : Nat) (s : S) : Prop := s.Pairwise (· < ·) ∧ ∀ x ∈ s, 0 ≤ x ∧ x < (n : Int)
def subB (a b : S) : Bool := a.all fun x => decide (x ∈ b)
def meetB (a b : S) : Bool := a.any fun x => decide (x ∈ b)
theorem subB_iff {a b : S} : subB a b = true ↔ ∀ x ∈ a, x ∈ b := by simp [subB]
theorem meetB_iff {a b : S} : meetB a b = true ↔ ∃ x, x ∈ a ∧ x ∈ b := by simp [meetB]
theorem meetB_self {a : S} (h : a ≠ []) : meetB a a = true := by
  cases a with
  | nil => exact absurd rfl h
  | cons x r => exact meetB_iff.mpr ⟨x, List.mem_cons_self, List.mem_cons_self⟩
theorem meetB_symm {a b : S} (h : meetB a b = true) : meetB b a = true := by
  obtain ⟨x, h1, h2⟩ := meetB_iff.mp h
  exact meetB_iff.mpr ⟨x, h2, h1⟩
theorem ne_nil_of_meet {a b : S} (h : meetB a b = true) : a ≠ [] := by
  obtain ⟨x, h1, _⟩ := meetB_iff.mp h
  intro e
  subst e
  cases h1
theorem int_asymm (a b : Int) (h1 : a < b) (h2 : b < a) : False := by omega
theorem good_ext {n m : Nat} {a b : S} (ha : good n a) (hb : good m b) (h : ∀ x, x ∈ a ↔ x ∈ b) : a = b := ext_of_pw int_asymm ha.1 hb.1 h
def pts (n : Nat) : List Int := (List.range n).map fun i => ((i : Nat) : Int)
theorem mem_pts {n : Nat} {x : Int} : x ∈ pts n ↔ 0 ≤ x ∧ x < (n : Int) := by
  unfold pts
  rw [List.mem_map]
  constructor
  · rintro ⟨i, hi, rfl⟩
    have := List.mem_range.mp hi
    omega
  · intro h
    exact ⟨x.toNat, List.mem_range.mpr (by omega), by omega⟩
theorem pts_length (n : Nat) : (pts n).length = n := by simp [pts]
theorem pts_get {n i : Nat} (h : i < n) : (pts n)[i]? = some (i : Int) := by simp [pts, h]
theorem pts_pw (n : Nat) : (pts n).Pairwise (· < ·) := by
  unfold pts
  rw [List.pairwise_map]
  exact List.pairwise_lt_range.imp fun {a b} h => by omega
def compl (n : Nat) (s : S) : S := (pts n).filter fun p => decide (p ∉ s)
theorem mem_compl {n : Nat} {s : S} {x : Int} : x ∈ compl n s ↔ (0 ≤ x ∧ x < (n : Int)) ∧ x ∉ s := by
  simp [compl, mem_pts]
theorem good_compl (n : Nat) (s : S) : good n (compl n s) :=
  ⟨(pts_pw n).filter _, fun x h => (mem_compl.mp h).1⟩
theorem compl_compl {n : Nat} {s : S} (h : good n s) : compl n (compl n s) = s :=
  good_ext (good_compl n _) h fun x => by
    rw [mem_compl, mem_compl]
    constructor
    · rintro ⟨h1, h2⟩
      by_cases q : x ∈ s
      · exact q
      · exact absurd ⟨h1, q⟩ h2
    · intro q
      exact ⟨h.2 x q, fun z => z.2 q⟩
/-- rising lists: all of the one in the other makes a sublist -/
theorem sub_sublist : ∀ {t o : S}, t.Pairwise (· < ·) → o.Pairwise (· < ·) → (∀ x ∈ t, x ∈ o) → t.Sublist o
  | [], _, _, _, _ => List.nil_sublist _
  | x :: t, [], _, _, h => absurd (h x List.mem_cons_self) (by simp)
  | x :: t, y :: o, ht, ho, h => by
    obtain ⟨hx, ht'⟩ := List.pairwise_cons.mp ht
    obtain ⟨hy, ho'⟩ := List.pairwise_cons.mp ho
    by_cases e : x = y
    · subst e
      refine List.Sublist.cons_cons x (sub_sublist ht' ho' fun z hz => ?_)
      rcases List.mem_cons.mp (h z (List.mem_cons_of_mem _ hz)) with q | q
      · have := hx z hz
        omega
      · exact q
    · have hxo : x ∈ o := by
        rcases List.mem_cons.mp (h x List.mem_cons_self) with q | q
        · exact absurd q e
        · exact q
      have hyx := hy x hxo
      refine List.Sublist.cons y (sub_sublist ht ho' fun z hz => ?_)
      rcases List.mem_cons.mp (h z hz) with q | q
      · rcases List.mem_cons.mp hz with w | w
        · omega
        · have := hx z w
          omega
      · exact q
theorem sub_len {n m : Nat} {t o : S} (ht : good n t) (ho : good m o) (h : subB t o = true) (hl : o.length ≤ t.length) : t = o :=
  (sub_sublist ht.1 ho.1 (subB_iff.mp h)).eq_of_length_le hl

/-! ### all sets -/
def powL : Nat → List S
  | 0 => [[]]
  | k + 1 => powL k ++ (powL k).map fun s => s ++ [((k : Nat) : Int)]
theorem powL_length : ∀ n, (powL n).length = 2 ^ n
  | 0 => rfl
  | k + 1 => by
    show (powL k ++ (powL k).map fun s => s ++ [((k : Nat) : Int)]).length = 2 ^ (k + 1)
    rw [List.length_append, List.length_map, powL_length k, Nat.pow_succ]
    omega
theorem powL_ne {n : Nat} : 0 < (powL n).length := by rw [powL_length]; exact Nat.pow_pos (by decide)
theorem good_mono {n m : Nat} {s : S} (h : n ≤ m) (g : good n s) : good m s := ⟨g.1, fun x hx => by have := g.2 x hx; omega⟩
theorem good_snoc {k : Nat} {s : S} (g : good k s) : good (k + 1) (s ++ [((k : Nat) : Int)]) := by
  refine ⟨List.pairwise_append.mpr ⟨g.1, List.pairwise_singleton _ _, fun a ha b hb => ?_⟩, fun x hx => ?_⟩
  · have := g.2 a ha
    have e := List.mem_singleton.mp hb
    omega
  · rcases List.mem_append.mp hx with h | h
    · have := g.2 x h
      omega
    · have e := List.mem_singleton.mp h
      omega
theorem mem_powL : ∀ {n : Nat} {s : S}, s ∈ powL n ↔ good n s
  | 0, s => by
    constructor
    · intro h
      have e : s = [] := List.mem_singleton.mp h
      subst e
      exact ⟨List.Pairwise.nil, fun x hx => by cases hx⟩
    · intro g
      cases s with
      | nil => exact List.mem_singleton.mpr rfl
      | cons x r =>
        have := g.2 x List.mem_cons_self
        omega
  | k + 1, s => by
    show s ∈ powL k ++ (powL k).map (fun s => s ++ [((k : Nat) : Int)]) ↔ _
    rw [List.mem_append, List.mem_map]
    constructor
    · rintro (h | ⟨t, h, rfl⟩)
      · exact good_mono (Nat.le_succ k) (mem_powL.mp h)
      · exact good_snoc (mem_powL.mp h)
    · intro g
      by_cases hk : ((k : Nat) : Int) ∈ s
      · refine .inr ⟨s.dropLast, mem_powL.mpr ?_, ?_⟩
        all_goals
          have hne : s ≠ [] := by
            intro e
            subst e
            cases hk
          have es := List.dropLast_concat_getLast hne
          have pw := g.1
          rw [← es] at pw
          obtain ⟨p1, _, p3⟩ := List.pairwise_append.mp pw
          have hl : s.getLast hne ∈ s := List.getLast_mem hne
          have hlb := g.2 _ hl
          have elast : s.getLast hne = ((k : Nat) : Int) := by
            have hk' : ((k : Nat) : Int) ∈ s.dropLast ++ [s.getLast hne] := by
              rw [es]
              exact hk
            rcases List.mem_append.mp hk' with q | q
            · have := p3 _ q _ (List.mem_singleton.mpr rfl)
              omega
            · exact (List.mem_singleton.mp q).symm
        · refine ⟨p1, fun x hx => ?_⟩
          have h1 := g.2 x (List.dropLast_subset _ hx)
          have h2 := p3 x hx _ (List.mem_singleton.mpr rfl)
          omega
        · rw [← elast]
          exact es
      · refine .inl (mem_powL.mpr ⟨g.1, fun x hx => ?_⟩)
        have := g.2 x hx
        have hne : x ≠ ((k : Nat) : Int) := fun e => hk (by rw [← e]; exact hx)
        omega
theorem powL_nodup : ∀ n, (powL n).Nodup
  | 0 => List.pairwise_singleton _ _
  | k + 1 => by
    show (powL k ++ (powL k).map fun s => s ++ [((k : Nat) : Int)]).Nodup
    refine List.nodup_append.mpr ⟨powL_nodup k, ?_, fun a ha b hb e => ?_⟩
    · exact List.Pairwise.map _ (fun a b hab e => hab (List.append_cancel_right e)) (powL_nodup k)
    · obtain ⟨t, _, rfl⟩ := List.mem_map.mp hb
      have g := mem_powL.mp ha
      have := g.2 ((k : Nat) : Int) (by rw [e]; simp)
      omega

/-! ### full families -/
structure Full (n : Nat) (F : List S) : Prop where
  srt : F.Pairwise (· < ·)
  good : ∀ s ∈ F, good n s
  meet : ∀ a ∈ F, ∀ b ∈ F, meetB a b = true
  one : ∀ s, MS.good n s → s ∈ F ∨ compl n s ∈ F
theorem lt_asymm (a b : S) (h1 : a < b) (h2 : b < a) : False := List.lt_irrefl a (List.lt_trans h1 h2)
theorem srt_nodup {F : List S} (h : F.Pairwise (· < ·)) : F.Nodup := nodup_of_pw (fun a => List.lt_irrefl a) h
theorem srt_ext {F G : List S} (h1 : F.Pairwise (· < ·)) (h2 : G.Pairwise (· < ·)) (h : ∀ x, x ∈ F ↔ x ∈ G) : F = G := ext_of_pw lt_asymm h1 h2 h
section
variable {n : Nat} {F G : List S}
theorem Full.nodup (h : Full n F) : F.Nodup := srt_nodup h.srt
theorem Full.ne (h : Full n F) {s : S} (hs : s ∈ F) : s ≠ [] := ne_nil_of_meet (h.meet s hs s hs)
theorem not_both (h : Full n F) {s : S} (h1 : s ∈ F) (h2 : compl n s ∈ F) : False := by
  obtain ⟨x, a, b⟩ := meetB_iff.mp (h.meet s h1 _ h2)
  exact (mem_compl.mp b).2 a
theorem Full.up (h : Full n F) {a b : S} (ha : a ∈ F) (hb : MS.good n b) (hab : subB a b = true) : b ∈ F := by
  rcases h.one b hb with q | q
  · exact q
  · obtain ⟨x, h1, h2⟩ := meetB_iff.mp (h.meet a ha _ q)
    exact absurd (subB_iff.mp hab x h1) (mem_compl.mp h2).2
theorem Full.card (h : Full n F) : 2 * F.length = 2 ^ n := by
  have hp : (F ++ F.map (compl n)).Perm (powL n) := by
    refine (List.perm_ext_iff_of_nodup ?_ (powL_nodup n)).mpr fun s => ?_
    · refine List.nodup_append.mpr ⟨h.nodup, ?_, fun a ha b hb e => ?_⟩
      · refine List.pairwise_map.mpr (h.nodup.imp_of_mem fun {a b} ha hb hne e => hne ?_)
        rw [← compl_compl (h.good a ha), ← compl_compl (h.good b hb), e]
      · obtain ⟨t, ht, rfl⟩ := List.mem_map.mp hb
        exact not_both h ht (by rw [← e]; exact ha)
    · rw [mem_powL, List.mem_append, List.mem_map]
      constructor
      · rintro (q | ⟨t, ht, rfl⟩)
        · exact h.good s q
        · exact good_compl n t
      · intro g
        rcases h.one s g with q | q
        · exact .inl q
        · exact .inr ⟨_, q, compl_compl g⟩
  have e := hp.length_eq
  rw [List.length_append, List.length_map, powL_length] at e
  omega
/-- a family that meets and that no set may join is full -/
theorem full_of_max (hn : 0 < n) (srt : F.Pairwise (· < ·)) (hg : ∀ s ∈ F, MS.good n s) (hm : ∀ a ∈ F, ∀ b ∈ F, meetB a b = true)
    (mx : ∀ s, MS.good n s → s ≠ [] → (∀ b ∈ F, meetB s b = true) → s ∈ F) : Full n F := by
  refine ⟨srt, hg, hm, fun s g => ?_⟩
  by_cases hs : s ∈ F
  · exact .inl hs
  · right
    by_cases hb : ∀ b ∈ F, meetB s b = true
    · have e : s = [] := by
        by_cases q : s = []
        · exact q
        · exact absurd (mx s g q hb) hs
      subst e
      refine mx _ (good_compl n []) (fun z => ?_) fun b hbF => ?_
      · have h0 : (0 : Int) ∈ compl n [] := mem_compl.mpr ⟨by omega, by simp⟩
        rw [z] at h0
        cases h0
      · obtain ⟨x, h1, _⟩ := meetB_iff.mp (hm b hbF b hbF)
        exact meetB_iff.mpr ⟨x, mem_compl.mpr ⟨(hg b hbF).2 x h1, by simp⟩, h1⟩
    · obtain ⟨b, hb'⟩ := Classical.not_forall.mp hb
      obtain ⟨hbF, hnb⟩ := Classical.not_imp.mp hb'
      have key : ∀ x ∈ b, x ∈ compl n s := fun x hx => mem_compl.mpr ⟨(hg b hbF).2 x hx, fun hxs => hnb (meetB_iff.mpr ⟨x, hxs, hx⟩)⟩
      refine mx _ (good_compl n s) (fun z => ?_) fun c hc => ?_
      · obtain ⟨x, h1, _⟩ := meetB_iff.mp (hm b hbF b hbF)
        have := key x h1
        rw [z] at this
        cases this
      · obtain ⟨x, h1, h2⟩ := meetB_iff.mp (hm b hbF c hc)
        exact meetB_iff.mpr ⟨x, key x h1, h2⟩
end

/-! ### the sets that are swapped -/
def isLeast (L : List S) (o : S) : Bool := decide (L.filter (fun t => subB t o) = [o])
def firstLeast (L : List S) : S := (L.find? (isLeast L)).getD []
def swapsL : Nat → List S → List S
  | 0, _ => []
  | k + 1, L => if L = [] then [] else firstLeast L :: swapsL k (L.erase (firstLeast L))
theorem short_ex : ∀ {L : List S}, L ≠ [] → ∃ o ∈ L, ∀ t ∈ L, o.length ≤ t.length
  | [], h => absurd rfl h
  | [x], _ => ⟨x, List.mem_cons_self, fun t ht => by rw [List.mem_singleton.mp ht]; exact Nat.le_refl _⟩
  | x :: y :: r, _ => by
    obtain ⟨o, h1, h2⟩ := short_ex (L := y :: r) (by simp)
    by_cases hx : x.length ≤ o.length
    · refine ⟨x, List.mem_cons_self, fun t ht => ?_⟩
      rcases List.mem_cons.mp ht with e | e
      · rw [e]; exact Nat.le_refl _
      · exact Nat.le_trans hx (h2 t e)
    · refine ⟨o, List.mem_cons_of_mem _ h1, fun t ht => ?_⟩
      rcases List.mem_cons.mp ht with e | e
      · rw [e]; omega
      · exact h2 t e
theorem least_ex {n : Nat} {L : List S} (hne : L ≠ []) (hn : L.Nodup) (hg : ∀ s ∈ L, good n s) : ∃ o ∈ L, isLeast L o = true := by
  obtain ⟨o, h1, h2⟩ := short_ex hne
  refine ⟨o, h1, decide_eq_true (filter_single hn h1 fun t ht => ?_)⟩
  constructor
  · intro q
    exact sub_len (hg t ht) (hg o h1) q (h2 t ht)
  · intro e
    subst e
    exact subB_iff.mpr fun x hx => hx
theorem firstLeast_find {n : Nat} {L : List S} (hne : L ≠ []) (hn : L.Nodup) (hg : ∀ s ∈ L, good n s) : L.find? (isLeast L) = some (firstLeast L) := by
  obtain ⟨o, h1, h2⟩ := least_ex hne hn hg
  cases e : L.find? (isLeast L) with
  | none => exact absurd h2 (List.find?_eq_none.mp e o h1)
  | some u =>
    have : firstLeast L = u := by
      unfold firstLeast
      rw [e]
      rfl
    rw [this]
theorem firstLeast_mem {n : Nat} {L : List S} (hne : L ≠ []) (hn : L.Nodup) (hg : ∀ s ∈ L, good n s) : firstLeast L ∈ L := List.mem_of_find?_eq_some (firstLeast_find hne hn hg)
theorem firstLeast_one {n : Nat} {L : List S} (hne : L ≠ []) (hn : L.Nodup) (hg : ∀ s ∈ L, good n s) : L.filter (fun t => subB t (firstLeast L)) = [firstLeast L] :=
  of_decide_eq_true (show isLeast L (firstLeast L) = true from List.find?_some (firstLeast_find hne hn hg))
theorem swaps_perm {n : Nat} : ∀ {k : Nat} {L : List S}, L.length = k → L.Nodup → (∀ s ∈ L, good n s) → (swapsL k L).Perm L
  | 0, L, hk, _, _ => by
    have e : L = [] := List.eq_nil_of_length_eq_zero hk
    subst e
    exact List.Perm.refl _
  | k + 1, L, hk, hn, hg => by
    have hne : L ≠ [] := fun e => by
      subst e
      simp at hk
    have hm := firstLeast_mem hne hn hg
    have hl : (L.erase (firstLeast L)).length = k := by
      rw [List.length_erase_of_mem hm]
      omega
    have ih := swaps_perm (n := n) (k := k) hl (hn.erase _) fun s hs => hg s (List.mem_of_mem_erase hs)
    show (if L = [] then [] else firstLeast L :: swapsL k (L.erase (firstLeast L))).Perm L
    rw [if_neg hne]
    exact (ih.cons _).trans (List.perm_cons_erase hm).symm
theorem swaps_min {n : Nat} : ∀ {k : Nat} {L : List S}, L.length = k → L.Nodup → (∀ s ∈ L, good n s) → ∀ (i : Nat) (o : S), (swapsL k L)[i]? = some o →
    o ∈ L ∧ o ∉ (swapsL k L).take i ∧ ∀ t ∈ L, t ∉ (swapsL k L).take i → subB t o = true → t = o
  | 0, L, _, _, _, i, o, h => by simp [swapsL] at h
  | k + 1, L, hk, hn, hg, i, o, h => by
    have hne : L ≠ [] := fun e => by
      subst e
      simp at hk
    have hm := firstLeast_mem hne hn hg
    have hl : (L.erase (firstLeast L)).length = k := by
      rw [List.length_erase_of_mem hm]
      omega
    have e0 : swapsL (k + 1) L = firstLeast L :: swapsL k (L.erase (firstLeast L)) := by
      show (if L = [] then [] else firstLeast L :: swapsL k (L.erase (firstLeast L))) = _
      rw [if_neg hne]
    rw [e0] at h ⊢
    cases i with
    | zero =>
      have e : firstLeast L = o := Option.some.inj h
      subst e
      refine ⟨hm, by simp, fun t ht _ q => ?_⟩
      have hf := firstLeast_one hne hn hg
      have : t ∈ L.filter fun t => subB t (firstLeast L) := List.mem_filter.mpr ⟨ht, q⟩
      rw [hf] at this
      exact List.mem_singleton.mp this
    | succ i =>
      have h' : (swapsL k (L.erase (firstLeast L)))[i]? = some o := h
      obtain ⟨a, b, c⟩ := swaps_min (n := n) hl (hn.erase _) (fun s hs => hg s (List.mem_of_mem_erase hs)) i o h'
      have hoe : o ≠ firstLeast L := fun e => by
        rw [e] at a
        exact (List.Nodup.not_mem_erase hn) a
      refine ⟨List.mem_of_mem_erase a, ?_, fun t ht hnt q => ?_⟩
      · show o ∉ firstLeast L :: (swapsL k (L.erase (firstLeast L))).take i
        intro z
        rcases List.mem_cons.mp z with z | z
        · exact hoe z
        · exact b z
      · have hnt' : t ∉ firstLeast L :: (swapsL k (L.erase (firstLeast L))).take i := hnt
        have h1 : t ≠ firstLeast L := fun e => hnt' (by rw [e]; exact List.mem_cons_self)
        exact c t ((List.mem_erase_of_ne h1).mpr ht) (fun z => hnt' (List.mem_cons_of_mem _ z)) q

/-! ### the family that stands -/
/-- the sets of F that G lacks -/
def lacks (F G : List S) : List S := F.filter fun s => decide (s ∉ G)
theorem mem_lacks {F G : List S} {s : S} : s ∈ lacks F G ↔ s ∈ F ∧ s ∉ G := by simp [lacks]
def steps (F G : List S) : List S := swapsL (lacks F G).length (lacks F G)
structure Here (n : Nat) (F R here : List S) : Prop where
  nd : here.Nodup
  mem : ∀ x, x ∈ here ↔ (x ∈ F ∧ x ∉ R) ∨ ∃ r ∈ R, x = compl n r
section
variable {n : Nat} {F G R here : List S}
theorem lacks_nodup (hF : Full n F) : (lacks F G).Nodup := hF.nodup.filter _
theorem lacks_good (hF : Full n F) : ∀ s ∈ lacks F G, good n s := fun s hs => hF.good s (mem_lacks.mp hs).1
theorem steps_perm (hF : Full n F) : (steps F G).Perm (lacks F G) := swaps_perm rfl (lacks_nodup hF) (lacks_good hF)
theorem steps_mem (hF : Full n F) {s : S} : s ∈ steps F G ↔ s ∈ F ∧ s ∉ G := by rw [(steps_perm hF).mem_iff, mem_lacks]
theorem Here.start (hF : Full n F) : Here n F [] F := ⟨hF.nodup, fun x => by simp⟩
theorem Here.good (hF : Full n F) (h : Here n F R here) : ∀ s ∈ here, MS.good n s := fun s hs => by
  rcases (h.mem s).mp hs with q | ⟨r, _, e⟩
  · exact hF.good s q.1
  · rw [e]; exact good_compl n r
theorem Here.other {here' : List S} (h : Here n F R here) (nd : here'.Nodup) (hm : ∀ x, x ∈ here' ↔ x ∈ here) : Here n F R here' := ⟨nd, fun x => (hm x).trans (h.mem x)⟩
theorem Here.ne (hF : Full n F) (hG : Full n G) (hR : ∀ r ∈ R, r ∈ F ∧ r ∉ G) (h : Here n F R here) : ∀ s ∈ here, s ≠ [] := fun s hs => by
  rcases (h.mem s).mp hs with q | ⟨r, hr, e⟩
  · exact hF.ne q.1
  · obtain ⟨h1, h2⟩ := hR r hr
    rcases hG.one r (hF.good r h1) with q | q
    · exact absurd q h2
    · rw [e]; exact hG.ne q
theorem Here.least {o : S} (hF : Full n F) (hG : Full n G) (hR : ∀ r ∈ R, r ∈ F ∧ r ∉ G) (h : Here n F R here) (h1 : o ∈ F) (h2 : o ∉ G) (h3 : o ∉ R)
    (mn : ∀ t, t ∈ F → t ∉ G → t ∉ R → subB t o = true → t = o) : o ∈ here ∧ here.filter (fun t => subB t o) = [o] := by
  have ho : o ∈ here := (h.mem o).mpr (.inl ⟨h1, h3⟩)
  refine ⟨ho, filter_single h.nd ho fun t ht => ⟨fun q => ?_, fun e => ?_⟩⟩
  · by_cases htG : t ∈ G
    · exact absurd (hG.up htG (hF.good o h1) q) h2
    · rcases (h.mem t).mp ht with w | ⟨r, hr, e⟩
      · exact mn t w.1 htG w.2 q
      · obtain ⟨a, b⟩ := hR r hr
        rcases hG.one r (hF.good r a) with w | w
        · exact absurd w b
        · exact absurd (by rw [e]; exact w) htG
  · subst e
    exact subB_iff.mpr fun x hx => hx
theorem Here.step {o : S} (hF : Full n F) (hG : Full n G) (hR : ∀ r ∈ R, r ∈ F ∧ r ∉ G) (h : Here n F R here) (h1 : o ∈ F) (h2 : o ∉ G) (h3 : o ∉ R) :
    compl n o ∉ here ∧ Here n F (R ++ [o]) (here.filter (fun t => decide (t ≠ o)) ++ [compl n o]) := by
  have hcG : compl n o ∈ G := by
    rcases hG.one o (hF.good o h1) with q | q
    · exact absurd q h2
    · exact q
  have hc : compl n o ∉ here := fun q => by
    rcases (h.mem _).mp q with w | ⟨r, hr, e⟩
    · exact not_both hF h1 w.1
    · have : o = r := by rw [← compl_compl (hF.good o h1), e, compl_compl (hF.good r (hR r hr).1)]
      exact h3 (by rw [this]; exact hr)
  refine ⟨hc, ?_, fun x => ?_⟩
  · refine List.nodup_append.mpr ⟨h.nd.filter _, List.pairwise_singleton _ _, fun a ha b hb e => ?_⟩
    have hb' := List.mem_singleton.mp hb
    exact hc (by rw [← hb', ← e]; exact (List.mem_filter.mp ha).1)
  · rw [List.mem_append, List.mem_filter, List.mem_singleton, h.mem x]
    constructor
    · rintro (⟨w | ⟨r, hr, e⟩, hx⟩ | e)
      · have hx' : x ≠ o := of_decide_eq_true hx
        refine .inl ⟨w.1, fun z => ?_⟩
        rcases List.mem_append.mp z with z | z
        · exact w.2 z
        · exact hx' (List.mem_singleton.mp z)
      · exact .inr ⟨r, List.mem_append_left _ hr, e⟩
      · exact .inr ⟨o, by simp, e⟩
    · rintro (⟨w1, w2⟩ | ⟨r, hr, e⟩)
      · exact .inl ⟨.inl ⟨w1, fun z => w2 (List.mem_append_left _ z)⟩, decide_eq_true fun z => w2 (by rw [z]; simp)⟩
      · rcases List.mem_append.mp hr with hr | hr
        · refine .inl ⟨.inr ⟨r, hr, e⟩, decide_eq_true fun z => ?_⟩
          obtain ⟨a, b⟩ := hR r hr
          have : compl n r ∈ G := by
            rcases hG.one r (hF.good r a) with q | q
            · exact absurd q b
            · exact q
          exact h2 (by rw [← z, e]; exact this)
        · exact .inr (by rw [e, List.mem_singleton.mp hr])
theorem Here.done (hF : Full n F) (hG : Full n G) (hR : ∀ r, r ∈ R ↔ r ∈ F ∧ r ∉ G) (h : Here n F R here) : ∀ x, x ∈ here ↔ x ∈ G := fun x => by
  rw [h.mem x]
  constructor
  · rintro (⟨a, b⟩ | ⟨r, hr, e⟩)
    · by_cases q : x ∈ G
      · exact q
      · exact absurd ((hR x).mpr ⟨a, q⟩) b
    · obtain ⟨a, b⟩ := (hR r).mp hr
      rcases hG.one r (hF.good r a) with q | q
      · exact absurd q b
      · rw [e]; exact q
  · intro hx
    by_cases q : x ∈ F
    · exact .inl ⟨q, fun z => ((hR x).mp z).2 hx⟩
    · right
      have hc : compl n x ∈ F := by
        rcases hF.one x (hG.good x hx) with w | w
        · exact absurd w q
        · exact w
      exact ⟨compl n x, (hR _).mpr ⟨hc, fun z => not_both hG hx z⟩, (compl_compl (hG.good x hx)).symm⟩
/-- the i-th step: what the two walkers ask -/
theorem steps_at (hF : Full n F) (hG : Full n G) {i : Nat} {o : S} (h : (steps F G)[i]? = some o) (H : Here n F ((steps F G).take i) here) :
    good n o ∧ o ∈ here ∧ here.filter (fun t => subB t o) = [o] ∧ compl n o ∉ here ∧ (∀ s ∈ here, s ≠ []) ∧ compl n o ≠ [] ∧ Here n F ((steps F G).take (i + 1)) (here.filter (fun t => decide (t ≠ o)) ++ [compl n o]) := by
  obtain ⟨a, b, c⟩ := swaps_min rfl (lacks_nodup hF) (lacks_good hF) i o h
  obtain ⟨h1, h2⟩ := mem_lacks.mp a
  have hR : ∀ r ∈ (steps F G).take i, r ∈ F ∧ r ∉ G := fun r hr => (steps_mem hF).mp (List.mem_of_mem_take hr)
  obtain ⟨l1, l2⟩ := H.least hF hG hR h1 h2 b fun t q1 q2 q3 q4 => c t (mem_lacks.mpr ⟨q1, q2⟩) q3 q4
  obtain ⟨s1, s2⟩ := H.step hF hG hR h1 h2 b
  refine ⟨hF.good o h1, l1, l2, s1, H.ne hF hG hR, ?_, ?_⟩
  · rcases hG.one o (hF.good o h1) with q | q
    · exact absurd q h2
    · exact hG.ne q
  · rw [List.take_add_one, h]
    exact s2
theorem steps_done (hF : Full n F) (hG : Full n G) (H : Here n F ((steps F G).take (steps F G).length) here) : ∀ x, x ∈ here ↔ x ∈ G := by
  rw [List.take_length] at H
  exact H.done hF hG fun r => steps_mem hF
end
end MS

/-! for i, x in enumerate(t), t a tuple (after the layer's rule for a list). -/
namespace MS
open PySem PySem.Spec PyProof.Rows L2
open AutoSeq1 (wpAny_loadPart')

set_option maxHeartbeats 1000000 in
theorem meets_enumerate_newT (t : Addr) (items : Array Value) :
    Meets (Builtin.«enumerate.__new__» ⟨[.type "enumerate", .ref t], []⟩) (fun _ R s => s.heap.IsTuple t items ∧
      R (.ok (.ret (.ref (s.heap.push { cls := .type "tuple_iterator", data := .fields #[.ref t, .int 0 0] }).objs.size)))
        { s with heap := (s.heap.push { cls := .type "tuple_iterator", data := .fields #[.ref t, .int 0 0] }).push { cls := .type "enumerate", data := .fields #[.none, .bool false, .ref s.heap.objs.size, rawInt 0, .none, .none] } }) :=
  .of_wp fun prog w A R s h => by
    obtain ⟨hp, g, d, tk, os⟩ := s; obtain ⟨hT, h⟩ := h
    have hsub := sub_enumerate
    obtain ⟨o, ho, _⟩ := id hT
    wp_walk using wpAny_loadPart' ho
    refine wpAny_stack_any fun st => wpAny_pure ?_
    split
    · rename_i c _ _ _ _ _
      cases (c == Value.type "enumerate")
      · wp_walk using wpAny_loadPart' ho, wpAny_pyIter_tuple hT
        exact ⟨_, rfl, h⟩
      · wp_walk using wpAny_loadPart' ho, wpAny_pyIter_tuple hT
        exact ⟨_, rfl, h⟩
    · wp_walk using wpAny_loadPart' ho, wpAny_pyIter_tuple hT
      exact ⟨_, rfl, h⟩

theorem call_enumerate_tuple {prog : Program} {w : World} {A : Around} {E : Value → Shared → Prop} {s : Shared} {t : Addr} {items : Array Value} {Q : Value → Shared → Prop} (hT : s.heap.IsTuple t items)
    (h : ∀ h', IsEnum h' (s.heap.objs.size + 1) s.heap.objs.size 0 .none → h'.IsTupleIter s.heap.objs.size t 0 → h'.objs.size = s.heap.objs.size + 2 →
      (∀ b o, s.heap.get? b = some o → h'.get? b = some o) → Q (.ref (s.heap.objs.size + 1)) { s with heap := h' }) :
    wpAny (model prog w) A (call (.type "enumerate") [.ref t]) Q E s := by
  refine callType_new F.called_enumerate (by decide) (F.typeCall_enumerate_1 _) (F.newCall_enumerate_1 _) (fun obj => F.args_object_init_2 obj _) F.entry_enumerate_new
    (meets_enumerate_newT t items) ⟨hT, ?_⟩
  have hz : (s.heap.push { cls := .type "tuple_iterator", data := .fields #[.ref t, .int 0 0] }).objs.size = s.heap.objs.size + 1 := Heap.size_push ..
  show _ ∧ _
  rw [hz]
  have he : IsEnum ((s.heap.push { cls := .type "tuple_iterator", data := .fields #[.ref t, .int 0 0] }).push
      { cls := .type "enumerate", data := .fields #[.none, .bool false, .ref s.heap.objs.size, rawInt 0, .none, .none] }) (s.heap.objs.size + 1) s.heap.objs.size 0 .none := by
    have := Heap.get?_push_size (s.heap.push { cls := .type "tuple_iterator", data := .fields #[.ref t, .int 0 0] })
      (o := { cls := .type "enumerate", data := .fields #[.none, .bool false, .ref s.heap.objs.size, rawInt 0, .none, .none] }) rfl
    rw [hz] at this; exact this
  refine ⟨⟨_, he, rfl⟩, h _ he ⟨_, Heap.get?_push_of_some _ (Heap.get?_push_size _ rfl), rfl, rfl⟩ (by rw [Heap.size_push, hz]) fun b o x => Heap.get?_push_of_some _ (Heap.get?_push_of_some _ x)⟩

/-- the tuple at a, each item in a new pair -/
def Iet (K : PySem.W.Frag) (a : Addr) : It :=
  ⟨fun i H => ∃ (xs : List V) (x : V), SqT K H a xs ∧ xs[i]? = some x, fun i H v H' => ∃ T x, v = .ref T ∧ H T = none ∧ H' = upd H T (.tup [.int (i : Nat), x]) ∧ ∀ xs, SqT K H a xs → xs[i]? = some x, fun i H => ∃ xs : List V, SqT K H a xs ∧ xs.length = i⟩
theorem turn_enumT {P : Program} {w : World} {K : PySem.W.Frag} {elts : List Expr} {kk : Nat} {tpos : Pos} (a e it : Addr) :
    Turn P w K (.Tuple elts kk tpos) (Iet K a) [e, it] e (fun i h => (∃ old, IsEnum h e it ((i : Nat) : Int) old) ∧ h.IsTupleIter it a i ∧ e ≠ it) where
  mem := by simp
  obj := fun i h st b hb => by
    obtain ⟨⟨old, he⟩, ⟨o, ho, hc, hd⟩, _⟩ := st
    have e' : b = e ∨ b = it := by simpa using hb
    rcases e' with z | z
    · rw [z]; exact ⟨_, he, fun v q => nomatch q⟩
    · rw [z]; exact ⟨o, ho, fun v q => by rw [hd] at q; cases q⟩
  keep := fun i h h' st k => let ⟨⟨old, he⟩, hi, hne⟩ := st; ⟨⟨old, k e (by simp) _ he⟩, hi.at fun o q => k it (by simp) o q, hne⟩
  item := by
    intro X hP hw hK hc i pins s σ H E I hf st hg
    subst hP hw hK
    obtain ⟨⟨old, he⟩, hit, hne⟩ := st
    obtain ⟨xs, x, hq, hx⟩ := hg
    obtain ⟨its, rv, p, hz⟩ := I.tuple hq
    obtain ⟨u, hu, ru⟩ := rv.get hx
    have hel : e < s.heap.objs.size := Heap.lt_size he
    have hil : it < s.heap.objs.size := by obtain ⟨_, q, _⟩ := hit; exact Heap.lt_size q
    have hlt : i < its.toArray.size := by
      have := (List.getElem?_eq_some_iff.mp hu).1
      simpa using this
    have hca : a ≠ it := by
      rintro rfl
      obtain ⟨o1, q1, c1, _⟩ := hit
      obtain ⟨o2, q2, c2, _⟩ := p
      rw [q1] at q2
      have e0 : o1 = o2 := Option.some.inj q2
      rw [e0, c2] at c1
      injection c1 with c1
      exact absurd c1 (by decide)
    have hce : e ∉ [it, a] := by
      intro hm
      rcases List.mem_cons.mp hm with z | z
      · exact hne z
      · have z' := List.mem_singleton.mp z
        subst z'
        obtain ⟨o2, q2, c2, _⟩ := p
        have q1 : s.heap.get? e = some _ := he
        rw [q1] at q2
        have e0 := Option.some.inj q2
        rw [← e0] at c2
        injection c2 with c2
        exact absurd c2 (by decide)
    refine wpAny_pyNext_enum_itemC (Draws.tuple (A := X.A.in1) (show X.A.in1.handled = none from I.ok.hd hc) it a hca its.toArray) he ⟨hit, p⟩ hlt hne hce fun x' h' tk hx' ho hit' hT hsz hk => ?_
    have ex : x' = u := by
      have : its.toArray[i]? = some u := by simpa using hu
      rw [this] at hx'
      exact (Option.some.inj hx').symm
    subst ex
    refine ⟨_, rfl, wpAny_letOwnedTupleGo_enum (s := { s with heap := h', toks := tk + 1 }) ho fun h'' he' sb => ?_⟩
    have hT2 : h''.get? s.heap.objs.size = some { cls := .type "tuple", data := .seq #[.int i tk, x'] } := (sb.2 _ (Nat.ne_of_gt hel)).trans hT
    have new : ObjOk X.prog X.w (upd H s.heap.objs.size (.tup [.int (i : Nat), x])) h'' s.heap.objs.size (.tup [.int (i : Nat), x]) :=
      ⟨by show 2 ≤ sizeLine; decide, [.int i tk, x'], .cons ⟨_, rfl⟩ (.cons ru .nil), ⟨_, hT2, rfl, _, rfl⟩⟩
    have I1 : Inv X pins σ (upd H s.heap.objs.size (.tup [.int (i : Nat), x])) { s with heap := h'', toks := tk + 1 } :=
      I.turnedNew (ch := [e, it]) (fun b ob hb q => (sb.2 b (fun z => hb (by simp [z]))).trans (hk b ob (fun z => hb (by simp [z])) (fun z => hb (by simp [z])) q)) hf (Nat.le_refl _) new
    refine ⟨.ref s.heap.objs.size, _, I1, rfl, ⟨_, x, rfl, I.hok.fresh (Nat.le_refl _), rfl, fun ys hy => ?_⟩, ⟨⟨x', ?_⟩, hit'.1.at fun o q => (sb.2 it (Ne.symm hne)).trans q, hne⟩, fun b hb => ?_⟩
    · rw [I.tuple_inj hy hq]
      exact hx
    · have e1 : ((i + 1 : Nat) : Int) = (i : Int) + 1 := by omega
      rw [e1]; exact he'
    · have hb' : b < s.heap.objs.size := by
        have e' : b = e ∨ b = it := by simpa using hb
        rcases e' with z | z
        · rw [z]; exact hel
        · rw [z]; exact hil
      rw [upd_ne (Nat.ne_of_lt hb')]
      exact (hf b hb).1
  done := by
    intro X hP hw hK hc i pins s σ H E I hf st hg
    subst hP hw hK
    obtain ⟨⟨old, he⟩, hit, hne⟩ := st
    obtain ⟨xs, hq, hx⟩ := hg
    obtain ⟨its, rv, p, hz⟩ := I.tuple hq
    obtain ⟨f0, f1, f2, f3, f4, f5⟩ := hf it (by simp)
    have hl := rv.length
    have hi : its.toArray.size = i := by rw [List.size_toArray]; omega
    subst hi
    have hca : a ≠ it := by
      rintro rfl
      obtain ⟨o1, q1, c1, _⟩ := hit
      obtain ⟨o2, q2, c2, _⟩ := p
      rw [q1] at q2
      have e0 : o1 = o2 := Option.some.inj q2
      rw [e0, c2] at c1
      injection c1 with c1
      exact absurd c1 (by decide)
    exact wpAny_pyNext_enum_endD (Draws.tuple (A := X.A.in1) (show X.A.in1.handled = none from I.ok.hd hc) it a hca its.toArray) he ⟨hit, p⟩ fun h' eb => ⟨rfl, I.turned (t' := s.toks) (fun b o hb q => eb b o hb q) f0 f1 f3 f4 f5⟩
  self := fun A i s Q E st h => let ⟨⟨_, he⟩, _⟩ := st; wpAny_pyIter_enum he h
def iEnumT (K : PySem.W.Frag) (ta : TA) : TI := fun σ H R => ta σ H fun vs H1 => ∃ a xs, vs = [.ref a] ∧ SqT K H1 a xs ∧ R (Iet K a) H1
theorem pi_enumT {X : Cx} {e : Expr} {ta : TA} {p pos tpos : Pos} {elts : List Expr} {kk : Nat} (hg : Gl X "enumerate") (hm : X.mg "enumerate" = none) (ha : PA X [e] ta) (hs : starEach [e] X.env = [(false, eval e X.env)] := by rfl) :
    PI X (.Tuple elts kk tpos) (.Call (.Name "enumerate" p) [e] [] pos) (iEnumT X.K ta) := by
  refine ⟨fun pins s σ H R I h => ?_⟩
  refine Call_ (ld_blt I hg hm boot_enumerate (PyProof.Rows.callWith_type1 (thn (ha.run pos pins s σ H _ I h) fun us s1 ⟨vs, H1, I1, r1, q1⟩ => ?_) hs rfl))
  obtain ⟨a, xs, ex, hq, q⟩ := q1
  subst ex
  cases r1 with
  | cons r rr =>
    cases rr
    cases r
    obtain ⟨its, rv, p', hz⟩ := I1.tuple hq
    refine call_enumerate_tuple p' fun h' he hit hsz hk => wpAny_pyIter_enum he ?_
    have I2 : Inv X pins σ H1 { s1 with heap := h' } := I1.kept (t' := s1.toks) hk
    refine ⟨s1.heap.objs.size + 1, [s1.heap.objs.size + 1, s1.heap.objs.size], _, _, H1, rfl, I2, turn_enumT a (s1.heap.objs.size + 1) s1.heap.objs.size, ⟨⟨.none, he⟩, hit, Nat.succ_ne_self _⟩, fun b hb => ?_, q⟩
    have e' : b = s1.heap.objs.size + 1 ∨ b = s1.heap.objs.size := by simpa using hb
    have hle : s1.heap.objs.size ≤ b := by
      rcases e' with z | z
      · rw [z]; exact Nat.le_add_right _ _
      · rw [z]; exact Nat.le_refl _
    exact I1.fpOk hle (I1.hok.fresh hle)
theorem walk_enumT {K : PySem.W.Frag} {a : Addr} {xs : List V} : Walk (Iet K a) xs.length (fun H => SqT K H a xs) (YPair (fun i => some (.int (i : Nat))) (fun i => xs[i]?)) := by
  refine ⟨fun i _ hi q => ⟨xs, xs[i], q, by simp [hi]⟩, fun _ q => ⟨xs, q, rfl⟩, fun i H v H' _ q y => ?_⟩
  obtain ⟨T, x, h1, h2, h3, h4⟩ := y
  exact ⟨T, .int (i : Nat), x, h1, h2, h3, rfl, h4 xs q⟩
end MS

/-! Rows: tuples of ints that stand in the heap; in, ==, remove over them. -/
namespace MS
open PySem PySem.Spec PyProof.Rows L2

/-- a tuple of ints: where it stands, what it holds -/
abbrev Row := Addr × List Int
def vals (L : List Row) : List V := L.map fun r => V.ref r.1
def sets (L : List Row) : List S := L.map fun r => r.2
abbrev IsR (H : Hp) (a : Addr) (s : S) : Prop := H a = some (.tup (s.map V.int))
def Rws (H : Hp) (L : List Row) : Prop := ∀ r ∈ L, IsR H r.1 r.2
theorem vals_length (L : List Row) : (vals L).length = L.length := List.length_map _
theorem sets_length (L : List Row) : (sets L).length = L.length := List.length_map _
theorem vals_append (L M : List Row) : vals (L ++ M) = vals L ++ vals M := List.map_append
theorem sets_append (L M : List Row) : sets (L ++ M) = sets L ++ sets M := List.map_append
theorem Rws.nil {H : Hp} : Rws H [] := fun r h => by cases h
theorem Rws.append {H : Hp} {L M : List Row} (h1 : Rws H L) (h2 : Rws H M) : Rws H (L ++ M) := fun r h => (List.mem_append.mp h).elim (h1 r) (h2 r)
theorem Rws.one {H : Hp} {a : Addr} {s : S} (h : IsR H a s) : Rws H [(a, s)] := fun r hr => by rw [List.mem_singleton.mp hr]; exact h
theorem Rws.sub {H : Hp} {L M : List Row} (h : Rws H L) (hs : ∀ r ∈ M, r ∈ L) : Rws H M := fun r hr => h r (hs r hr)
theorem mem_sets {L : List Row} {s : S} : s ∈ sets L ↔ ∃ a, (a, s) ∈ L := by
  unfold sets
  rw [List.mem_map]
  constructor
  · rintro ⟨⟨a, t⟩, h, rfl⟩
    exact ⟨a, h⟩
  · rintro ⟨a, h⟩
    exact ⟨_, h, rfl⟩
theorem sets_filter (L : List Row) (p : S → Bool) : sets (L.filter fun r => p r.2) = (sets L).filter p := by
  unfold sets
  rw [List.filter_map]
  rfl

/-! ### as data -/
def tD (s : S) : PyData := .tuple (s.map PyData.int)
section
variable {K : PySem.W.Frag} {H : Hp}
theorem dp_ints : ∀ s : S, DpAll K H (s.map V.int) (s.map PyData.int)
  | [] => .nil
  | x :: s => .cons (.int x) (dp_ints s)
theorem dp_row {a : Addr} {s : S} (h : IsR H a s) : Dp K H (.ref a) (tD s) := .tup (SqT.of h) (dp_ints s)
theorem dp_rows : ∀ {L : List Row}, Rws H L → DpAll K H (vals L) ((sets L).map tD)
  | [], _ => .nil
  | r :: L, h => .cons (dp_row (h r List.mem_cons_self)) (dp_rows fun q hq => h q (List.mem_cons_of_mem _ hq))
end
theorem lay_ints : ∀ s : S, PyData.canLayAll0 (s.map PyData.int) = true
  | [] => by simp [PyData.canLayAll0]
  | x :: s => by
    show PyData.canLayAll0 (PyData.int x :: s.map PyData.int) = true
    simp [PyData.canLayAll0, PyData.canLay0, lay_ints s]
theorem lay_tD (s : S) : (tD s).canLay0 = true := by
  show (PyData.tuple (s.map PyData.int)).canLay0 = true
  simp only [PyData.canLay0]
  exact lay_ints s
theorem lay_tDs : ∀ F : List S, PyData.canLayAll0 (F.map tD) = true
  | [] => by simp [PyData.canLayAll0]
  | s :: F => by
    show PyData.canLayAll0 (tD s :: F.map tD) = true
    simp [PyData.canLayAll0, lay_tD s, lay_tDs F]
theorem depth_ints : ∀ s : S, PyData.depthAll (s.map PyData.int) = 0
  | [] => by simp [PyData.depthAll]
  | x :: s => by
    show PyData.depthAll (PyData.int x :: s.map PyData.int) = 0
    rw [PyData.depthAll, depth_ints s]
    simp [PyData.depth]
theorem depth_tD (s : S) : (tD s).depth = 1 := by
  show (PyData.tuple (s.map PyData.int)).depth = 1
  simp only [PyData.depth]
  rw [depth_ints]
theorem depth_tDs : ∀ F : List S, PyData.depthAll (F.map tD) ≤ 1
  | [] => by simp [PyData.depthAll]
  | s :: F => by
    show PyData.depthAll (tD s :: F.map tD) ≤ 1
    rw [PyData.depthAll, depth_tD]
    have := depth_tDs F
    omega
theorem shaped_tD (s : S) : SeqAt.shaped (tD s) = true := by
  unfold SeqAt.shaped
  rw [lay_tD, depth_tD]
  rfl
theorem shaped_tup (F : List S) : SeqAt.shaped (.tuple (F.map tD)) = true := by
  unfold SeqAt.shaped
  rw [Bool.and_eq_true]
  refine ⟨by simp only [PyData.canLay0]; exact lay_tDs F, decide_eq_true ?_⟩
  simp only [PyData.depth]
  have := depth_tDs F
  omega
theorem shaped_lst (F : List S) : SeqAt.shaped (.list (F.map tD)) = true := by
  unfold SeqAt.shaped
  rw [Bool.and_eq_true]
  refine ⟨by simp only [PyData.canLay0]; exact lay_tDs F, decide_eq_true ?_⟩
  simp only [PyData.depth]
  have := depth_tDs F
  omega
theorem plain_ints : ∀ s : S, PyData.plainAll (s.map PyData.int) = true
  | [] => by simp [PyData.plainAll]
  | x :: s => by
    show PyData.plainAll (PyData.int x :: s.map PyData.int) = true
    simp [PyData.plainAll, PyData.plain, plain_ints s]
theorem plain_tD (s : S) : (tD s).plain = true := by
  show (PyData.tuple (s.map PyData.int)).plain = true
  simp only [PyData.plain]
  exact plain_ints s
theorem plain_tDs : ∀ F : List S, PyData.plainAll (F.map tD) = true
  | [] => by simp [PyData.plainAll]
  | s :: F => by
    show PyData.plainAll (tD s :: F.map tD) = true
    simp [PyData.plainAll, plain_tD s, plain_tDs F]
theorem eqv_ints : ∀ a b : S, PyData.eqvAll (a.map PyData.int) (b.map PyData.int) = decide (a = b)
  | [], [] => by simp [PyData.eqvAll]
  | [], y :: b => by
    show PyData.eqvAll [] (PyData.int y :: b.map PyData.int) = _
    simp [PyData.eqvAll]
  | x :: a, [] => by
    show PyData.eqvAll (PyData.int x :: a.map PyData.int) [] = _
    simp [PyData.eqvAll]
  | x :: a, y :: b => by
    show PyData.eqvAll (PyData.int x :: a.map PyData.int) (PyData.int y :: b.map PyData.int) = _
    rw [PyData.eqvAll, eqv_ints a b]
    simp only [PyData.eqv]
    by_cases h1 : x = y <;> by_cases h2 : a = b <;> simp [h1, h2]
theorem eqv_tD (a b : S) : PyData.eqv (tD a) (tD b) = decide (a = b) := by
  show PyData.eqv (.tuple (a.map PyData.int)) (.tuple (b.map PyData.int)) = _
  simp only [PyData.eqv]
  exact eqv_ints a b
theorem eqv_tDs : ∀ F G : List S, PyData.eqvAll (F.map tD) (G.map tD) = decide (F = G)
  | [], [] => by simp [PyData.eqvAll]
  | [], y :: b => by
    show PyData.eqvAll [] (tD y :: b.map tD) = _
    simp [PyData.eqvAll]
  | x :: a, [] => by
    show PyData.eqvAll (tD x :: a.map tD) [] = _
    simp [PyData.eqvAll]
  | x :: a, y :: b => by
    show PyData.eqvAll (tD x :: a.map tD) (tD y :: b.map tD) = _
    rw [PyData.eqvAll, eqv_tDs a b, eqv_tD]
    by_cases h1 : x = y <;> by_cases h2 : a = b <;> simp [h1, h2]
theorem any_tDs (F : List S) (s : S) : ((F.map tD).any fun z => PyData.eqv z (tD s)) = decide (s ∈ F) := by
  rw [List.any_map]
  have e : ((fun z => PyData.eqv z (tD s)) ∘ tD) = fun t => decide (t = s) := by
    funext t
    exact eqv_tD t s
  rw [e]
  by_cases h : s ∈ F
  · rw [decide_eq_true h, List.any_eq_true]
    exact ⟨s, h, decide_eq_true rfl⟩
  · rw [decide_eq_false h, List.any_eq_false]
    intro t ht q
    exact h (by rw [← of_decide_eq_true q]; exact ht)

/-! ### in, not in -/
section
variable {X : Cx}
/-- a set in a list or tuple of sets -/
def rInR (neg : Bool) : R2 := fun x y H Q => ∃ (a p : Addr) (s : S) (L : List Row), x = .ref a ∧ IsR H a s ∧ y = .ref p ∧ (H p = some (.lst (vals L)) ∨ H p = some (.tup (vals L))) ∧ Rws H L ∧ Q (.bl (if neg = true then !decide (s ∈ sets L) else decide (s ∈ sets L))) H
theorem room_at {d : PyData} {F : List S} (hu : X.A.units + 65 < cLine) (hd : d.depth ≤ 1) : X.A.units + 1 + min (PyData.depthAll (F.map tD)) d.depth < cLine := by
  have h1 : min (PyData.depthAll (F.map tD)) d.depth ≤ 1 := Nat.le_trans (Nat.min_le_right _ _) hd
  omega
theorem op_inR (hu : X.A.units + 65 < cLine) : OpR X (compareOp .In) (rInR false) := by
  intro pins s σ H x y v u Q I rx ry h
  obtain ⟨a, p, z, L, rfl, ha, rfl, hp, hL, q⟩ := h
  obtain ⟨bs, r2⟩ := Dp.reads I (tD z) _ v (dp_row ha) rx
  rw [if_neg (by decide), ← any_tDs] at q
  rcases hp with hp | hp
  · obtain ⟨as, r1⟩ := Dp.reads I (.list ((sets L).map tD)) _ u (.lst (SqL.of hp) (dp_rows hL)) ry
    exact SeqAt.in_list_reads r1 r2 (lay_tDs _) (lay_tD z) (room_at hu (Nat.le_of_eq (depth_tD z))) ⟨.bl _, H, I, rfl, q⟩
  · obtain ⟨as, r1⟩ := Dp.reads I (.tuple ((sets L).map tD)) _ u (.tup (SqT.of hp) (dp_rows hL)) ry
    exact SeqAt.in_tuple_reads r1 r2 (lay_tDs _) (lay_tD z) (room_at hu (Nat.le_of_eq (depth_tD z))) ⟨.bl _, H, I, rfl, q⟩
theorem op_notInR (hu : X.A.units + 65 < cLine) : OpR X (compareOp .NotIn) (rInR true) := by
  intro pins s σ H x y v u Q I rx ry h
  obtain ⟨a, p, z, L, rfl, ha, rfl, hp, hL, q⟩ := h
  obtain ⟨bs, r2⟩ := Dp.reads I (tD z) _ v (dp_row ha) rx
  rw [if_pos rfl, ← any_tDs] at q
  rcases hp with hp | hp
  · obtain ⟨as, r1⟩ := Dp.reads I (.list ((sets L).map tD)) _ u (.lst (SqL.of hp) (dp_rows hL)) ry
    exact SeqAt.notIn_list_reads r1 r2 (lay_tDs _) (lay_tD z) (room_at hu (Nat.le_of_eq (depth_tD z))) ⟨.bl _, H, I, rfl, q⟩
  · obtain ⟨as, r1⟩ := Dp.reads I (.tuple ((sets L).map tD)) _ u (.tup (SqT.of hp) (dp_rows hL)) ry
    exact SeqAt.notIn_tuple_reads r1 r2 (lay_tDs _) (lay_tD z) (room_at hu (Nat.le_of_eq (depth_tD z))) ⟨.bl _, H, I, rfl, q⟩

/-! ### ==, != -/
/-- two sets -/
def rEqR (neg : Bool) : R2 := fun x y H Q => ∃ (a b : Addr) (s t : S), x = .ref a ∧ IsR H a s ∧ y = .ref b ∧ IsR H b t ∧ Q (.bl (if neg = true then !decide (s = t) else decide (s = t))) H
theorem op_eqR (hu : X.A.units + 64 < cLine) : OpR X (compareOp .Eq) (rEqR false) := by
  intro pins s σ H x y v u Q I rx ry h
  obtain ⟨a, b, z, t, rfl, ha, rfl, hb, q⟩ := h
  refine op_eqD hu pins s σ H _ _ v u Q I rx ry ⟨tD z, tD t, dp_row ha, dp_row hb, shaped_tD _, shaped_tD _, ?_⟩
  rw [eqv_tD]
  exact q
theorem op_neR (hu : X.A.units + 64 < cLine) : OpR X (compareOp .NotEq) (rEqR true) := by
  intro pins s σ H x y v u Q I rx ry h
  obtain ⟨a, b, z, t, rfl, ha, rfl, hb, q⟩ := h
  refine op_neD hu pins s σ H _ _ v u Q I rx ry ⟨tD z, tD t, dp_row ha, dp_row hb, shaped_tD _, shaped_tD _, ?_⟩
  rw [eqv_tD]
  exact q
/-- two lists, two tuples of sets -/
def rEqF (neg : Bool) : R2 := fun x y H Q => ∃ (a b : Addr) (L M : List Row), x = .ref a ∧ y = .ref b ∧ ((H a = some (.lst (vals L)) ∧ H b = some (.lst (vals M))) ∨ (H a = some (.tup (vals L)) ∧ H b = some (.tup (vals M)))) ∧ Rws H L ∧ Rws H M ∧
  Q (.bl (if neg = true then !decide (sets L = sets M) else decide (sets L = sets M))) H
theorem op_eqF (hu : X.A.units + 64 < cLine) : OpR X (compareOp .Eq) (rEqF false) := by
  intro pins s σ H x y v u Q I rx ry h
  obtain ⟨a, b, L, M, rfl, rfl, hp, hL, hM, q⟩ := h
  rcases hp with ⟨ha, hb⟩ | ⟨ha, hb⟩
  · refine op_eqD hu pins s σ H _ _ v u Q I rx ry ⟨.list ((sets L).map tD), .list ((sets M).map tD), .lst (SqL.of ha) (dp_rows hL), .lst (SqL.of hb) (dp_rows hM), shaped_lst _, shaped_lst _, ?_⟩
    simp only [PyData.eqv]
    rw [eqv_tDs]
    exact q
  · refine op_eqD hu pins s σ H _ _ v u Q I rx ry ⟨.tuple ((sets L).map tD), .tuple ((sets M).map tD), .tup (SqT.of ha) (dp_rows hL), .tup (SqT.of hb) (dp_rows hM), shaped_tup _, shaped_tup _, ?_⟩
    simp only [PyData.eqv]
    rw [eqv_tDs]
    exact q
theorem op_neF (hu : X.A.units + 64 < cLine) : OpR X (compareOp .NotEq) (rEqF true) := by
  intro pins s σ H x y v u Q I rx ry h
  obtain ⟨a, b, L, M, rfl, rfl, hp, hL, hM, q⟩ := h
  rcases hp with ⟨ha, hb⟩ | ⟨ha, hb⟩
  · refine op_neD hu pins s σ H _ _ v u Q I rx ry ⟨.list ((sets L).map tD), .list ((sets M).map tD), .lst (SqL.of ha) (dp_rows hL), .lst (SqL.of hb) (dp_rows hM), shaped_lst _, shaped_lst _, ?_⟩
    simp only [PyData.eqv]
    rw [eqv_tDs]
    exact q
  · refine op_neD hu pins s σ H _ _ v u Q I rx ry ⟨.tuple ((sets L).map tD), .tuple ((sets M).map tD), .tup (SqT.of ha) (dp_rows hL), .tup (SqT.of hb) (dp_rows hM), shaped_tup _, shaped_tup _, ?_⟩
    simp only [PyData.eqv]
    rw [eqv_tDs]
    exact q

/-! ### list.remove -/
def dropR (s : S) (L : List Row) : List Row := L.eraseP fun r => decide (r.2 = s)
theorem sets_dropR (s : S) : ∀ L : List Row, sets (dropR s L) = (sets L).erase s
  | [] => rfl
  | r :: L => by
    unfold dropR
    by_cases e : r.2 = s
    · rw [List.eraseP_cons_of_pos (by simpa using e)]
      show sets L = (r.2 :: sets L).erase s
      rw [e, List.erase_cons_head]
    · rw [List.eraseP_cons_of_neg (by simpa using e)]
      show r.2 :: sets (dropR s L) = (r.2 :: sets L).erase s
      rw [List.erase_cons_tail (by simpa using e), sets_dropR s L]
theorem dropR_sub {s : S} {L : List Row} : ∀ r ∈ dropR s L, r ∈ L := fun r h => List.mem_of_mem_eraseP h
theorem place_rows {s : S} {L : List Row} (h : s ∈ sets L) : ∃ j, SeqAt.dataPlace ((sets L).map tD) (tD s) = some j ∧ j < L.length ∧ vals (dropR s L) = (vals L).eraseIdx j := by
  induction L with
  | nil => cases h
  | cons r L ih =>
    by_cases e : r.2 = s
    · refine ⟨0, ?_, Nat.succ_pos _, ?_⟩
      · unfold SeqAt.dataPlace
        show (tD r.2 :: (sets L).map tD).findIdx? _ = _
        rw [List.findIdx?_cons, eqv_tD, decide_eq_true e]
        rfl
      · unfold dropR
        rw [List.eraseP_cons_of_pos (by simpa using e)]
        rfl
    · have h' : s ∈ sets L := by
        rcases List.mem_cons.mp (show s ∈ r.2 :: sets L from h) with q | q
        · exact absurd q.symm e
        · exact q
      obtain ⟨j, h1, h2, h3⟩ := ih h'
      refine ⟨j + 1, ?_, Nat.succ_lt_succ h2, ?_⟩
      · unfold SeqAt.dataPlace at h1 ⊢
        show (tD r.2 :: (sets L).map tD).findIdx? _ = _
        rw [List.findIdx?_cons, eqv_tD, decide_eq_false e, h1]
        rfl
      · unfold dropR
        rw [List.eraseP_cons_of_neg (by simpa using e)]
        show V.ref r.1 :: vals (dropR s L) = (V.ref r.1 :: vals L).eraseIdx (j + 1)
        rw [h3]
        rfl
def rRemR : V → List V → Hp → VK → Prop := fun x xs H Q => ∃ (l a : Addr) (s : S) (L : List Row), x = .ref l ∧ xs = [.ref a] ∧ H l = some (.lst (vals L)) ∧ Rws H L ∧ IsR H a s ∧ s ∈ sets L ∧ Q .non (upd H l (.lst (vals (dropR s L))))
theorem mt_removeR (hu : X.A.units + 65 < cLine) : MtR X "list.remove" rRemR := by
  intro pins s σ H x xs v us Q I rx rxs h
  obtain ⟨l, a, z, L, rfl, rfl, hl, hL, ha, hz, q⟩ := h
  cases rx
  cases rxs with
  | cons ry rt =>
    rename_i uy ut
    cases rt
    obtain ⟨bs, r2⟩ := Dp.reads I (tD z) _ uy (dp_row ha) ry
    obtain ⟨zz, its, n, r, hlen, e⟩ := I.lstM hl
    obtain ⟨as, r1⟩ := Dp.readsAll I ((sets L).map tD) _ its (dp_rows hL) r
    obtain ⟨j, j1, j2, j3⟩ := place_rows hz
    have hzz : L.length ≤ sizeLine := by rw [← vals_length]; exact zz
    have hil : its.length = L.length := by rw [← r.length, vals_length]
    refine SeqAt.remove_list_data (j := j) (vs := its.toArray) ⟨_, e, rfl, n, rfl⟩ (show ReadsAll s.heap its.toArray.toList _ as from r1) r2 (plain_tDs _) (plain_tD z) (room_at hu (Nat.le_of_eq (depth_tD z))) j1 (by rw [List.size_toArray]; omega) ?_
    have rr := r.eraseIdx j
    rw [← j3] at rr
    refine ⟨.non, _, I.lset (its' := its.eraseIdx j) (t' := s.toks) hl e ?_ rr ?_, rfl, q⟩
    · show its.toArray.eraseIdxIfInBounds j = (its.eraseIdx j).toArray
      rw [List.eraseIdxIfInBounds_toArray]
    · rw [vals_length]
      exact Nat.le_trans (List.length_eraseP_le) hzz
end
end MS

/-! Sorting rows: tuples of ints of any lengths, all with an item or the first one empty. -/
namespace MS
open PySem PySem.W PySem.Calls PyProof.Rows
open PySem.SeqAt (RcLt tuple_ltAt)


def refs (L : List Row) : List Value := L.map fun r => Value.ref r.1
theorem refs_length (L : List Row) : (refs L).length = L.length := List.length_map _
/-- all have an item, or the first has none -/
def Okk (L : List Row) : Prop := (∀ r ∈ L, r.2 ≠ []) ∨ ∃ a L', L = (a, ([] : S)) :: L'

section
variable {prog : Program} {w : World} {A : Around} {E : Value → Shared → Prop} {s : Shared}

theorem call_tuple_lt {Q : Value → Shared → Prop} {l b : Addr} {items items2 : Array Value} {e r : Nat → Bool} (hl : s.heap.IsTuple l items) (hb : s.heap.IsTuple b items2)
    (he : ∀ j (h1 : j < items.size) (h2 : j < items2.size), SeqAt.EqAt A.in1 s items[j] items2[j] (e j)) (hr : ∀ j (h1 : j < items.size) (h2 : j < items2.size), e j = false → RcLt A.in1 s items[j] items2[j] (r j))
    (h : Q (.bool (SeqAt.firstLt e r (decide (items.size < items2.size)) (List.range (min items.size items2.size)))) s) : wpAny (model prog w) A (call (.builtin "tuple.__lt__") [.ref l, .ref b]) Q E s := by
  obtain ⟨⟨cls, dd, data, sl⟩, ho, hc, n, hd⟩ := id hl
  obtain ⟨⟨cls2, dd2, data2, sl2⟩, ho2, hc2, n2, hd2⟩ := id hb
  simp only at hc hd hc2 hd2
  subst hc hd hc2 hd2
  exact call_meets F.slot_tuple_lt ⟨_, ho, rfl⟩ F.entry_tuple_lt (F.args_tuple_lt_2 _ _) (tuple_ltAt l b items items2 n n2 dd dd2 sl sl2 e r) ⟨ho, ho2, he, hr, h⟩

theorem oneLt_tups {xs ys : List PyData} {a b : Value} {as bs : List Addr} {Q : Bool → Shared → Prop} (ra : Reads s.heap a (.tuple xs) as) (rb : Reads s.heap b (.tuple ys) bs) (hal : alikeAll xs ys = true)
    (hu : A.units + min (PyData.tuple xs).depth (PyData.tuple ys).depth < cLine) (hq : Q (dataLt (.tuple xs) (.tuple ys)) s) : wpAny (model prog w) A (oneLt' true a b) Q E s := by
  cases ra with
  | @tuple l o vs n _ as₁ h1 h2 h3 h4 =>
    cases rb with
    | @tuple l' o' vs' n' _ bs₁ k1 k2 k3 k4 =>
      have n1 : vs.size = xs.length := by simpa using SeqAt.ReadsAll.length _ _ _ h4
      have n2 : vs'.size = ys.length := by simpa using SeqAt.ReadsAll.length _ _ _ k4
      rw [dataLt_tuple, ← firstLt_toks xs ys hal, ← n1, ← n2] at hq
      rw [oneLt'_eq]
      simp only [if_true]
      have hroom : A.units < cLine := by omega
      have hu' : A.in1.units + min (PyData.depthAll xs) (PyData.depthAll ys) < cLine := by
        show A.units + 1 + _ < cLine
        simp only [PyData.depth] at hu
        omega
      refine wpAny_bind (wpAny_cRoomFor hroom ?_)
      refine wpAny_bind (wpAny_callSpecialIfBound?_slot (T := "tuple") ⟨_, h1, h2⟩ F.slot_tuple_lt (call_tuple_lt (e := SeqAt.pairEq xs ys) (r := fun j => dataLt (xs.getD j .none) (ys.getD j .none)) ⟨_, h1, h2, _, h3⟩ ⟨_, k1, k2, _, k3⟩ (fun j j1 j2 => ?_) (fun j j1 j2 hj => ?_) ?_))
      · have := eqAt_alikeAll xs ys A.in1 s vs.toList vs'.toList _ _ h4 k4 hal hu' j (by simpa using j1) (by simpa using j2)
        simpa using this
      · have := rcLt_alikeAll xs ys A.in1 s vs.toList vs'.toList _ _ h4 k4 hal hu' j (by simpa using j1) (by simpa using j2) hj
        simpa using this
      · exact wpAny_truthy_bool hq

theorem firsts_any {M : Model} : ∀ (vs : List Value) (ds : List (List PyData)), EachIs (fun v d => ∃ as, Reads s.heap v (.tuple d) as) vs ds →
    ∀ {Q : List (Option Value) → Shared → Prop}, (∀ fs : List (Option Value), (∀ r, ds = [] :: r → ∃ fr, fs = none :: fr) → Q fs s) → wpAny M A (vs.mapM firstOfTuple') Q E s
  | [], _, .nil, Q, h => by rw [List.mapM_nil]; exact wpAny_pure (h _ fun r e => by cases e)
  | v :: vs, d :: ds, .cons ⟨as, r⟩ t, Q, h => by
    rw [List.mapM_cons]
    refine wpAny_bind ?_
    cases r with
    | @tuple a o xs n _ _ ho hc hd hr =>
      rw [kas_first_eq]
      refine wpAny_bind (Looks.here (show Looks M s.heap (typeOf (.ref a)) o.cls from (Looks.ld ho).andThen .now) ?_)
      rw [hc, if_neg (by first | decide | simp)]
      refine wpAny_bind (listItems_at ho hd (wpAny_pure ?_))
      refine wpAny_bind (firsts_any vs ds t fun fs hfs => wpAny_pure (h _ fun q e => ?_))
      injection e with e1 e2
      subst e1
      have hx : xs.toList = [] := by
        generalize xs.toList = z at hr
        cases hr
        rfl
      have hx0 : xs[0]? = none := by
        rw [← Array.getElem?_toList, hx]
        rfl
      exact ⟨fs, by rw [hx0]⟩

theorem sorts_mixed {vs : List Value} {ds : List (List PyData)} (e : EachIs (fun v d => ∃ as, Reads s.heap v (.tuple d) as) vs ds) (hal : AllAlike (ds.map PyData.tuple)) (hf : ∃ r, ds = [] :: r)
    (hu : ∀ d, d ∈ ds → A.units + (PyData.tuple d).depth < cLine) : SortsAt prog w A s (dataKind s.heap (ds.map PyData.tuple)) vs := by
  refine ⟨fun v hv => ?_, oneType', ?_, fun h2 E' Q hq => ?_⟩
  · obtain ⟨d, hd, as, r⟩ := e.left v hv
    exact ⟨_, dataKind_some hal (List.mem_map.mpr ⟨d, hd, rfl⟩) r⟩
  · intro E x y a b Q ha hb hq
    obtain ⟨d, as, hd, ra, rfl⟩ := dataKind_inv ha
    obtain ⟨d', as', hd', rb, rfl⟩ := dataKind_inv hb
    rw [keyLt'_oneType]
    have hdd := hal d hd d' hd'
    obtain ⟨x1, m1, rfl⟩ := List.mem_map.mp hd
    obtain ⟨x2, m2, rfl⟩ := List.mem_map.mp hd'
    exact oneLt_tups ra rb (by simpa [alike] using hdd) (Nat.lt_of_le_of_lt (Nat.add_le_add_left (Nat.min_le_left _ _) _) (hu x1 m1)) hq
  · obtain ⟨r, rfl⟩ := hf
    rw [kat_kind_eq, List.mapM_toArray, map_eq_pure_bind]
    refine wpAny_bind (wpAny_bind (firsts_any vs _ e fun fs hfs => wpAny_pure ?_))
    obtain ⟨fr, rfl⟩ := hfs r rfl
    rw [if_neg (by simp), if_neg (by simp)]
    rw [oneTypeOnly'_eq, List.mapM_toArray, map_eq_pure_bind]
    refine wpAny_bind (wpAny_bind (wpAny_bind (kas_mapM (r := Value.type "tuple") _ (fun v hv Q' hq => ?_) (wpAny_pure ?_))))
    · obtain ⟨d, hd, as, rd⟩ := e.left v hv
      exact (looks_reads rd).here hq
    · obtain ⟨v₁, v₂, rest, rfl⟩ : ∃ v₁ v₂ rest, vs = v₁ :: v₂ :: rest := by
        match vs, h2 with
        | [], h2 => simp at h2
        | [_], h2 => simp at h2
        | v₁ :: v₂ :: rest, _ => exact ⟨v₁, v₂, rest, rfl⟩
      have hall : ((List.map (fun _ => Value.type "tuple") (v₁ :: v₂ :: rest)).toArray.all fun x => x == Value.type "tuple") = true := by
        simp only [List.all_toArray, List.all_map, List.all_eq_true]
        intro _ _
        first | rfl | decide | exact beq_self_eq_true _
      have h0 : (List.map (fun _ => Value.type "tuple") (v₁ :: v₂ :: rest)).toArray[0]? = some (Value.type "tuple") := by simp
      rw [h0]
      simp only [hall, if_true]
      exact wpAny_pure (wpAny_pure hq)

theorem each_refs {h : Heap} : ∀ {L : List Row}, (∀ r ∈ L, ∃ as, Reads h (.ref r.1) (tD r.2) as) → EachIs (fun v r => ∃ as, Reads h v (tD r.2) as) (refs L) L
  | [], _ => .nil
  | r :: L, hr => .cons (hr r List.mem_cons_self) (each_refs fun q hq => hr q (List.mem_cons_of_mem _ hq))
theorem each_tup {h : Heap} : ∀ {vs : List Value} {L : List Row}, EachIs (fun v (r : Row) => ∃ as, Reads h v (tD r.2) as) vs L → EachIs (fun v d => ∃ as, Reads h v (.tuple d) as) vs (L.map fun r => r.2.map PyData.int)
  | _, _, .nil => .nil
  | _, _, .cons h t => .cons h (each_tup t)
theorem each_self : ∀ L : List Row, EachIs (fun v (r : Row) => v = Value.ref r.1) (refs L) L
  | [] => .nil
  | r :: L => .cons rfl (each_self L)
theorem refs_of_each : ∀ {vs : List Value} {L : List Row}, EachIs (fun v (r : Row) => v = Value.ref r.1) vs L → vs = refs L
  | _, _, .nil => rfl
  | _, _, .cons h t => by
    rw [h, refs_of_each t]
    rfl
theorem alike_rows (L : List Row) : AllAlike (L.map fun r => tD r.2) := AllAlike.of (enc := fun r : Row => tD r.2) fun b b' => by
  show alike (.tuple (b.2.map PyData.int)) (.tuple (b'.2.map PyData.int)) = true
  simp only [alike]
  exact alike_ints _ _
theorem dataLe_sets : dataLe false (fun r : Row => tD r.2) = fun p q => decide (p.2 ≤ q.2) := by
  funext p q
  show (!dataLt (.tuple (q.2.map PyData.int)) (.tuple (p.2.map PyData.int))) = _
  rw [dataLt_tuple]
  show (!rowLt (q.2.map PyData.int) (p.2.map PyData.int)) = _
  rw [dataLt_ints]
  by_cases h : q.2 < p.2
  · have h' : ¬ p.2 ≤ q.2 := fun r => List.not_lt.mpr r h
    simp [h, h']
  · have h' : p.2 ≤ q.2 := List.not_lt.mp h
    simp [h, h']
theorem rows_sorted (L : List Row) : (L.mergeSort fun p q => decide (p.2 ≤ q.2)).Pairwise fun p q => p.2 ≤ q.2 := by
  have h := List.pairwise_mergeSort (le := fun p q : Row => decide (p.2 ≤ q.2)) (fun a b c h1 h2 => by
      simp only [decide_eq_true_eq] at h1 h2 ⊢
      exact List.le_trans h1 h2) (fun a b => by
      simp only [Bool.or_eq_true, decide_eq_true_eq]
      exact List.le_total _ _) L
  exact h.imp fun {a b} q => of_decide_eq_true q
theorem rows_perm (L : List Row) : (L.mergeSort fun p q => decide (p.2 ≤ q.2)).Perm L := List.mergeSort_perm _ _

theorem sorts_rows {L : List Row} (hr : ∀ r ∈ L, ∃ as, Reads s.heap (.ref r.1) (tD r.2) as) (hk : Okk L) (hu : A.units + 1 < cLine) : SortsAt prog w A s (dataKind s.heap (L.map fun r => tD r.2)) (refs L) := by
  rcases hk with hk | ⟨a, L', hk⟩
  · refine SortsAt.data (each_map (R := fun v d => ∃ as, Reads s.heap v d as) (fun r : Row => tD r.2) (each_refs hr)) (alike_rows L) (.inl fun d hd => ?_) fun d hd => ?_
    · obtain ⟨r, hr', rfl⟩ := List.mem_map.mp hd
      have := hk r hr'
      cases e : r.2 with
      | nil => exact absurd e this
      | cons x q => exact ⟨.int x, q.map PyData.int, rfl⟩
    · obtain ⟨r, hr', rfl⟩ := List.mem_map.mp hd
      rw [depth_tD]
      exact hu
  · have em : (L.map fun r => tD r.2) = (L.map fun r => r.2.map PyData.int).map PyData.tuple := by
      rw [List.map_map]
      rfl
    rw [em]
    refine sorts_mixed ?_ (by rw [← em]; exact alike_rows L) ⟨L'.map fun r => r.2.map PyData.int, by rw [hk]; rfl⟩ fun d hd => ?_
    · exact each_tup (each_refs hr)
    · obtain ⟨r, hr', rfl⟩ := List.mem_map.mp hd
      have := depth_tD r.2
      have e : (PyData.tuple (r.2.map PyData.int)).depth = 1 := this
      rw [e]
      exact hu

/-- xs.sort() of rows -/
theorem sort_rows {a : Addr} {n : Nat} {L : List Row} {Q : Value → Shared → Prop} (ho : s.heap.get? a = some (seqObj "list" (refs L).toArray n)) (hr : ∀ r ∈ L, ∃ as, Reads (sortingHeap s.heap a (refs L)) (.ref r.1) (tD r.2) as) (hk : Okk L) (hL : L.length ≤ sizeLine)
    (hu : A.units + 2 < cLine) (h : ∀ L' : List Row, L'.Perm L → L'.Pairwise (fun p q => p.2 ≤ q.2) → Q .none { s with heap := sortedHeap s.heap a (refs L) (refs L').toArray }) :
    wpAny (model prog w) A (call (.builtin "list.sort") [.ref a]) Q E s := by
  have S : SortsAt prog w A.in1 { s with heap := sortingHeap s.heap a (refs L) } (dataKind (sortingHeap s.heap a (refs L)) (L.map fun r => tD r.2)) (refs L) := sorts_rows (s := { s with heap := sortingHeap s.heap a (refs L) }) hr hk (by show A.units + 1 + 1 < cLine; omega)
  have e1 := sortVals_data (h' := sortingHeap s.heap a (refs L)) (enc := fun r : Row => tD r.2) false (each_self L) (each_refs hr) (alike_rows L)
  have e2 := refs_of_each e1
  rw [dataLe_sets] at e2
  refine wpAny_call_entry slot_list_sort ⟨_, ho, rfl⟩ entry_list_sort (list_sort_vals ho S (by rw [refs_length]; exact hL) ⟨.none, rfl, ?_⟩) (args_list_sort _)
  rw [e2]
  exact h _ (rows_perm L) (rows_sorted L)
/-- sorted(xs) of a list of rows -/
theorem sorted_rows {l : Addr} {L : List Row} {Q : Value → Shared → Prop} (hl : s.heap.IsList l (refs L).toArray) (hr : ∀ r ∈ L, ∃ as, Reads s.heap (.ref r.1) (tD r.2) as) (hk : Okk L) (hL : L.length ≤ sizeLine)
    (hu : A.units + 3 < cLine) (h : ∀ L' : List Row, L'.Perm L → L'.Pairwise (fun p q => p.2 ≤ q.2) → Q (.ref (s.heap.objs.size + 1)) { s with heap := sortedAll s.heap (refs L) (refs L').toArray }) :
    wpAny (model prog w) A (call (.builtin "sorted") [.ref l]) Q E s := by
  have hr' : ∀ r ∈ L, ∃ as, Reads (sortingHeap (copyHeap s.heap (refs L)) (s.heap.objs.size + 1) (refs L)) (.ref r.1) (tD r.2) as := fun r q => by
    obtain ⟨as, z⟩ := hr r q
    exact ⟨as, PyProof.Rows.Reads.keeps (fun _ _ => sorting_copy_old) z⟩
  have S : SortsAt prog w A.in1.in1 { s with heap := sortingHeap (copyHeap s.heap (refs L)) (s.heap.objs.size + 1) (refs L) } (dataKind (sortingHeap (copyHeap s.heap (refs L)) (s.heap.objs.size + 1) (refs L)) (L.map fun r => tD r.2)) (refs L) :=
    sorts_rows (s := { s with heap := sortingHeap (copyHeap s.heap (refs L)) (s.heap.objs.size + 1) (refs L) }) hr' hk (by show A.units + 1 + 1 + 1 < cLine; omega)
  have e1 := sortVals_data (h' := sortingHeap (copyHeap s.heap (refs L)) (s.heap.objs.size + 1) (refs L)) (enc := fun r : Row => tD r.2) false (each_self L) (each_refs hr') (alike_rows L)
  have e2 := refs_of_each e1
  rw [dataLe_sets] at e2
  refine sorted_vals hl S (by rw [refs_length]; exact hL) ?_
  rw [e2]
  exact h _ (rows_perm L) (rows_sorted L)
end
end MS

/-! sorted of a list, a dict, a set of rows; dict of pairs (row, True). -/
namespace MS
open PySem PySem.Spec PyProof.Rows L2

theorem vals_refs : ∀ L : List Row, Vals (vals L) (refs L)
  | [] => .nil
  | r :: L => .cons rfl (vals_refs L)
theorem refs_of : ∀ {L : List Row} {us : List Value}, Vals (vals L) us → us = refs L
  | [], _, .nil => rfl
  | r :: L, _, .cons q t => by
    cases q
    rw [refs_of t]
    rfl
section
variable {X : Cx} {pins : List (Addr × Obj)} {σ : L2.St} {H : Hp} {s : Shared}
theorem reads_rows (I : Inv X pins σ H s) {L : List Row} (hL : Rws H L) : ∀ r ∈ L, ∃ as, Reads s.heap (.ref r.1) (tD r.2) as := fun r hr => Dp.reads I (tD r.2) _ _ (dp_row (K := X.K) (hL r hr)) rfl

/-- sorted(xs), a list of rows -/
def rSortR : List V → Hp → VK → Prop := fun vs H Q => ∃ (a : Addr) (L : List Row), vs = [V.ref a] ∧ H a = some (.lst (vals L)) ∧ Rws H L ∧ Okk L ∧ L.length ≤ 1000 ∧
  ∀ (L' : List Row) (p : Addr), L'.Perm L → L'.Pairwise (fun q r => q.2 ≤ r.2) → H p = none → Q (.ref p) (upd H p (.lst (vals L')))
theorem cr_sortR (hu : X.A.units + 3 < cLine) : CallR X (.builtin "sorted") rSortR := by
  intro pins s σ H vs us Q I r h
  obtain ⟨a, L, rfl, ha, hL, hk, hn, q⟩ := h
  rw [Vals.ref1 r]
  obtain ⟨its, rv, pl, hz⟩ := I.list (SqL.of ha)
  have e := refs_of rv
  subst e
  have hn' : L.length ≤ sizeLine := Nat.le_of_lt (small1000 hn)
  refine sorted_rows pl.isList (reads_rows I hL) hk hn' hu fun L' hp hs => ?_
  obtain ⟨ep, he'⟩ := PyProof.Rows.sortedAll_at s.heap (refs L) (refs L').toArray
  refine ⟨.ref _, upd H (s.heap.objs.size + 1) (.lst (vals L')), I.laid (t' := s.toks) (fun _ _ => PyProof.Rows.sortedAll_old) (Nat.le_succ _) ⟨?_, refs L', ep, vals_refs L', he'⟩, rfl, q L' _ hp hs (I.hok.fresh (Nat.le_succ _))⟩
  rw [vals_length, hp.length_eq]
  exact hn'

/-! ### dict of pairs (row, True) -/
def DicO (a : Addr) (L : List Row) : HO := .ext fun h => (a == sysModules) = false ∧ ∃ es ep, h.DictRaw a es ep ∧ es.toList.map (fun e => e.key) = refs L
theorem storedH_mem {K : Type} [DecidableEq K] {xs : List (K × Addr × Value)} {k : K} {a : Addr} {v : Value} {x : K × Addr × Value} (h : x ∈ storedH xs k a v) : (∃ y ∈ xs, y.1 = x.1 ∧ y.2.1 = x.2.1) ∨ (k = x.1 ∧ a = x.2.1) := by
  unfold storedH at h
  split at h
  · obtain ⟨y, hy, rfl⟩ := List.mem_map.mp h
    refine .inl ⟨y, hy, ?_⟩
    unfold putAt
    split <;> exact ⟨rfl, rfl⟩
  · rcases List.mem_append.mp h with h | h
    · exact .inl ⟨x, h, rfl, rfl⟩
    · rw [List.mem_singleton.mp h]
      exact .inr ⟨rfl, rfl⟩
theorem storedH_keeps {K : Type} [DecidableEq K] {xs : List (K × Addr × Value)} {k : K} {a : Addr} {v : Value} {j : K} (h : j ∈ xs.map (·.1)) : j ∈ (storedH xs k a v).map (·.1) := by
  obtain ⟨y, hy, rfl⟩ := List.mem_map.mp h
  unfold storedH
  split
  · refine List.mem_map.mpr ⟨putAt k v y, List.mem_map.mpr ⟨y, hy, rfl⟩, ?_⟩
    unfold putAt
    split <;> rfl
  · exact List.mem_map.mpr ⟨y, List.mem_append_left _ hy, rfl⟩
theorem storedH_has {K : Type} [DecidableEq K] {xs : List (K × Addr × Value)} {k : K} {a : Addr} {v : Value} : k ∈ (storedH xs k a v).map (·.1) := by
  by_cases h : (atKey xs k).isSome = true
  · unfold storedH
    rw [if_pos h]
    unfold atKey at h
    rw [Option.isSome_map] at h
    obtain ⟨x, hx⟩ := Option.isSome_iff_exists.mp h
    have h1 := List.mem_of_find?_eq_some hx
    have h2 : x.1 = k := by
      have := List.find?_some hx
      exact of_decide_eq_true this
    refine List.mem_map.mpr ⟨putAt k v x, List.mem_map.mpr ⟨x, h1, rfl⟩, ?_⟩
    unfold putAt
    rw [if_pos h2]
    exact h2
  · unfold storedH
    rw [if_neg h]
    exact List.mem_map.mpr ⟨_, List.mem_append_right _ (List.mem_singleton.mpr rfl), rfl⟩
theorem storedAllH_mem {K : Type} [DecidableEq K] : ∀ {ps xs : List (K × Addr × Value)} {x : K × Addr × Value}, x ∈ storedAllH xs ps → (∃ y ∈ xs, y.1 = x.1 ∧ y.2.1 = x.2.1) ∨ ∃ y ∈ ps, y.1 = x.1 ∧ y.2.1 = x.2.1
  | [], xs, x, h => .inl ⟨x, h, rfl, rfl⟩
  | p :: ps, xs, x, h => by
    have h' : x ∈ storedAllH (storedH xs p.1 p.2.1 p.2.2) ps := h
    rcases storedAllH_mem h' with ⟨y, hy, e1, e2⟩ | ⟨y, hy, e⟩
    · rcases storedH_mem hy with ⟨z, hz, f1, f2⟩ | ⟨f1, f2⟩
      · exact .inl ⟨z, hz, f1.trans e1, f2.trans e2⟩
      · exact .inr ⟨p, List.mem_cons_self, f1.trans e1, f2.trans e2⟩
    · exact .inr ⟨y, List.mem_cons_of_mem _ hy, e⟩
theorem storedAllH_has {K : Type} [DecidableEq K] : ∀ {ps xs : List (K × Addr × Value)} {k : K}, (k ∈ xs.map (·.1) ∨ k ∈ ps.map (·.1)) → k ∈ (storedAllH xs ps).map (·.1)
  | [], xs, k, h => by
    rcases h with h | h
    · exact h
    · cases h
  | p :: ps, xs, k, h => by
    show k ∈ (storedAllH (storedH xs p.1 p.2.1 p.2.2) ps).map (·.1)
    rcases h with h | h
    · exact storedAllH_has (.inl (storedH_keeps h))
    · rcases List.mem_cons.mp (show k ∈ p.1 :: ps.map (·.1) from h) with e | e
      · rw [e]
        exact storedAllH_has (.inl storedH_has)
      · exact storedAllH_has (.inr e)

/-- dict(ps), ps a list of tuples (row, True): Ts tells where the pairs stand -/
def rDicR : List V → Hp → VK → Prop := fun vs H Q => ∃ (l : Addr) (Ts : List Addr) (L : List Row), vs = [V.ref l] ∧ H l = some (.lst (Ts.map V.ref)) ∧ Ts.length = L.length ∧ (∀ (i : Nat) (t : Addr) (r : Row), Ts[i]? = some t → L[i]? = some r → H t = some (.tup [.ref r.1, .bl true])) ∧ Rws H L ∧
  ∀ (a : Addr) (M : List Row), H a = none → (∀ r ∈ M, r ∈ L) → (∀ r ∈ L, r.2 ∈ sets M) → (sets M).Nodup → Q (.ref a) (upd H a (DicO a M))
theorem refs_at' : ∀ {Ts : List Addr} {us : List Value}, Vals (Ts.map V.ref) us → us = Ts.map Value.ref
  | [], _, .nil => rfl
  | t :: Ts, _, .cons q r => by
    cases q
    rw [refs_at' r]
    rfl
theorem cr_dicR (hc : X.calm = true) (hu : X.A.units + 2 < cLine) : CallR X (.type "dict") rDicR := by
  intro pins s σ H vs us Q I r h
  obtain ⟨l, Ts, L, rfl, hl, hlen, hT, hL, q⟩ := h
  rw [Vals.ref1 r]
  obtain ⟨its, rv, ⟨o, n, ho, hcl, hdn, hd⟩, hz⟩ := I.list (SqL.of hl)
  have e := refs_at' rv
  subst e
  have hTsz : Ts.length ≤ sizeLine := by rw [List.length_map] at hz; exact hz
  -- the pairs
  let ps : List (Value × Value) := L.map fun r => (Value.ref r.1, Value.bool true)
  let qs : List (S × Addr × Value) := L.map fun r => (r.2, r.1, Value.bool true)
  have hpsl : ps.length = L.length := List.length_map _
  have P := PairArg.list (prog := X.prog) (w := X.w) l (Ts.map Value.ref).toArray (fun j => Ts.getD j 0) ps
  have hitems : PairItems s.heap (Ts.map Value.ref).toArray (fun j => Ts.getD j 0) ps := by
    refine ⟨by rw [List.size_toArray, List.length_map, hpsl]; exact hlen, fun j k v hj => ?_⟩
    have hjL : j < L.length := by
      have := (List.getElem?_eq_some_iff.mp hj).1
      omega
    have hjT : j < Ts.length := by omega
    have e1 : Ts.getD j 0 = Ts[j] := by simp [List.getD, hjT]
    have e2 : (k, v) = (Value.ref (L[j]).1, Value.bool true) := by
      have e3 : ps[j]? = some (Value.ref (L[j]).1, Value.bool true) := by
        show (L.map fun r => (Value.ref r.1, Value.bool true))[j]? = _
        rw [List.getElem?_map, List.getElem?_eq_getElem hjL]
        rfl
      rw [hj] at e3
      exact Option.some.inj e3
    obtain ⟨rfl, rfl⟩ := Prod.mk.inj e2
    refine ⟨by simp [hjT, e1], .inl ?_⟩
    show s.heap.IsTuple (Ts.getD j 0) _
    rw [e1]
    obtain ⟨its2, rv2, p2, _⟩ := I.tuple (SqT.of (hT j Ts[j] L[j] (List.getElem?_eq_getElem hjT) (List.getElem?_eq_getElem hjL)))
    cases rv2 with
    | cons a1 t1 =>
      cases t1 with
      | cons a2 t2 =>
        cases t2
        cases a1
        cases a2
        exact p2
  have hhas : PairsHaveH (TK X.prog X.w) ps.length (PairRel ps) qs := by
    refine ⟨by show (L.map _).length = _; rw [List.length_map, hpsl], fun i key v hi => ?_⟩
    have hi' : ps[i]? = some (key, v) := hi
    have hiL : i < L.length := by
      have := (List.getElem?_eq_some_iff.mp hi').1
      omega
    have e3 : ps[i]? = some (Value.ref (L[i]).1, Value.bool true) := by
      show (L.map fun r => (Value.ref r.1, Value.bool true))[i]? = _
      rw [List.getElem?_map, List.getElem?_eq_getElem hiL]
      rfl
    rw [hi'] at e3
    obtain ⟨rfl, rfl⟩ := Prod.mk.inj (Option.some.inj e3)
    refine ⟨(L[i]).2, (L[i]).1, ?_, rfl⟩
    show (L.map fun r => (r.2, r.1, Value.bool true))[i]? = _
    rw [List.getElem?_map, List.getElem?_eq_getElem hiL]
    rfl
  have hst : KeysStay (TK X.prog X.w) s.heap s.heap.objs.size [] qs := fun h' hk x hx => by
    obtain ⟨r, hr, rfl⟩ := List.mem_map.mp hx
    exact isT_keep (I.isT (SqT.of (hL r hr))) fun c ob e => hk c ob (Nat.ne_of_lt (Heap.lt_size e)) (by simp) e
  refine call_dict_pairsH P (I.ok.hd hc) (show X.A.in1.in1.units < cLine by show X.A.units + 1 + 1 < cLine; omega) ⟨⟨o, n, ho, hcl, hdn, hd⟩, hitems⟩ hhas hst (by rw [hpsl, ← hlen]; exact hTsz) fun h' tk hd' hk => ?_
  obtain ⟨o', es, ep, ho', hex, hdat, hes, his, hnd⟩ := hd'
  have hm : (s.heap.objs.size == sysModules) = false := beq_eq_false_iff_ne.mpr (Nat.ne_of_gt I.big)
  let M : List Row := (storedAllH [] qs).map fun x => (x.2.1, x.1)
  have hM : refs M = es.toList.map fun e => e.key := by
    rw [hes]
    show ((storedAllH [] qs).map fun x => (x.2.1, x.1)).map _ = ((storedAllH [] qs).map (entryOfKey (TK X.prog X.w))).map _
    rw [List.map_map, List.map_map]
    rfl
  have hsM : sets M = (storedAllH [] qs).map (·.1) := by
    show ((storedAllH [] qs).map fun x => (x.2.1, x.1)).map _ = _
    rw [List.map_map]
    rfl
  have hn : H s.heap.objs.size = none := I.hok.fresh (Nat.le_refl _)
  refine ⟨.ref s.heap.objs.size, upd H s.heap.objs.size (DicO s.heap.objs.size M), I.laid (t' := tk) (fun b u e => hk b u (by simp) e) (Nat.le_refl _) ⟨⟨hm, es, ep, ⟨o', ho', hex, hdat⟩, hM.symm⟩, ⟨o', ho'⟩, fun h1 h2 z k => ?_⟩, rfl, q _ M hn (fun r hr => ?_) (fun r hr => ?_) (by rw [hsM]; exact hnd)⟩
  · obtain ⟨z1, es1, ep1, z2, z3⟩ := z
    exact ⟨z1, es1, ep1, z2.at k, z3⟩
  · obtain ⟨x, hx, rfl⟩ := List.mem_map.mp hr
    rcases storedAllH_mem hx with ⟨y, hy, _⟩ | ⟨y, hy, e1, e2⟩
    · cases hy
    · obtain ⟨r0, hr0, rfl⟩ := List.mem_map.mp hy
      have : r0 = (x.2.1, x.1) := Prod.ext e2 e1
      rw [← this]
      exact hr0
  · rw [hsM]
    exact storedAllH_has (.inr (List.mem_map.mpr ⟨(r.2, r.1, Value.bool true), List.mem_map.mpr ⟨r, hr, rfl⟩, rfl⟩))

/-- sorted(d), d such a dict -/
def rSortD : List V → Hp → VK → Prop := fun vs H Q => ∃ (a : Addr) (L : List Row), vs = [V.ref a] ∧ H a = some (DicO a L) ∧ Rws H L ∧ Okk L ∧ L.length ≤ 1000 ∧
  ∀ (L' : List Row) (p : Addr), L'.Perm L → L'.Pairwise (fun q r => q.2 ≤ r.2) → H p = none → Q (.ref p) (upd H p (.lst (vals L')))
theorem cr_sortD (hc : X.calm = true) (hu : X.A.units + 4 < cLine) : CallR X (.builtin "sorted") rSortD := by
  intro pins s σ H vs us Q I r h
  obtain ⟨a, L, rfl, ha, hL, hk, hn, q⟩ := h
  rw [Vals.ref1 r]
  obtain ⟨⟨lo, es, ep, raw, hkeys⟩, _, _⟩ := (show ObjOk X.prog X.w H s.heap a (DicO a L) from I.hok a _ ha)
  have hL' : L.length ≤ sizeLine := Nat.le_of_lt (small1000 hn)
  have hes : es.size = L.length := by
    have := congrArg List.length hkeys
    rw [List.length_map, Array.length_toList, refs_length] at this
    exact this
  refine Calls.call_function_entry PyProof.Rows.kind_sorted PyProof.Rows.plain_sorted PyProof.Rows.entry_sorted (PyProof.Rows.args_sorted1 _) ?_
  unfold Builtin.«sorted»
  refine wpAny_bind (m := checkCount "sorted" 1 1 _) (wpAny_pure ?_)
  refine wpAny_bind (PySem.W.kdu_collect (A := X.A.in1) (PySem.KdlSrc.rawDict (prog := X.prog) (w := X.w) (d := a) (es := es) (ep := ep) lo) (I.ok.hd hc) raw (by rw [hes]; exact hL') fun h' tk acc hkp hacc => ?_)
  have eacc : acc.toList = refs L := by
    rw [← hkeys]
    refine List.ext_getElem? fun j => ?_
    by_cases hj : j < acc.size
    · have hj2 : j < es.size := by rw [← hacc.1]; exact hj
      obtain ⟨hi, e⟩ := hacc.2 j acc[j] (Array.getElem?_eq_getElem hj)
      rw [Array.getElem?_toList, Array.getElem?_eq_getElem hj, List.getElem?_map, Array.getElem?_toList, Array.getElem?_eq_getElem hj2, e]
      rfl
    · have hj2 : ¬ j < es.size := by rw [← hacc.1]; exact hj
      rw [Array.getElem?_toList, Array.getElem?_eq_none (by omega), List.getElem?_map, Array.getElem?_toList, Array.getElem?_eq_none (by omega)]
      rfl
  have I1 : Inv X pins σ H { s with heap := h', toks := tk } := I.kept hkp
  refine wpAny_bind (wpAny_newList ?_ (by rw [eacc, refs_length]; exact hL'))
  have hoL : (h'.push (seqObj "list" acc.toList.toArray 0)).get? h'.objs.size = some (seqObj "list" acc.toList.toArray 0) := Heap.get?_push_size _ rfl
  show wpAny _ _ _ _ _ { s with heap := h'.push (seqObj "list" acc.toList.toArray 0), toks := tk }
  rw [eacc] at hoL ⊢
  have hr : ∀ r ∈ L, ∃ as, Reads (PySem.W.sortingHeap (h'.push (seqObj "list" (refs L).toArray 0)) h'.objs.size (refs L)) (.ref r.1) (tD r.2) as := fun r hr => by
    obtain ⟨as, z⟩ := reads_rows I1 hL r hr
    refine ⟨as, PyProof.Rows.Reads.keeps (fun b o e => ?_) z⟩
    exact PySem.W.sortingHeap_old (Nat.ne_of_lt (Heap.lt_size (show h'.get? b = some o from e))) (Heap.get?_push_of_some _ e)
  refine wpAny_bind (wpAny_holding (sort_rows (s := { s with heap := h'.push (seqObj "list" (refs L).toArray 0), toks := tk }) hoL hr hk hL' (by show X.A.units + 1 + 2 < cLine; omega) fun L2 hp hs => ?_))
  obtain ⟨e', he'⟩ := PyProof.Rows.sortedHeap_at (vs := refs L) (out := (refs L2).toArray) hoL
  refine wpAny_pure ⟨_, rfl, .ref h'.objs.size, upd H h'.objs.size (.lst (vals L2)), I1.laid (t' := tk) (fun b u e => ?_) (Nat.le_refl _) ⟨by rw [vals_length, hp.length_eq]; exact hL', refs L2, e', vals_refs L2, he'⟩, rfl, q L2 _ hp hs (I1.hok.fresh (Nat.le_refl _))⟩
  have hb : b < h'.objs.size := Heap.lt_size e
  rw [PyProof.Rows.sortedHeap_old (Nat.ne_of_lt hb) (by rw [size_push']; exact Nat.lt_succ_of_lt hb)]
  exact Heap.get?_push_of_some _ e
end
end MS

/-! set of rows, sorted of it. -/
namespace MS
open PySem PySem.Spec PyProof.Rows L2

section
variable {P : Program} {w : World} {A : Around} {E : Value → Shared → Prop} {s : Shared}
/-- sorted(set): after the layer's rule for tuples of one length -/
theorem sorted_setR {a : Addr} {L : List Row} {es : Array (Int × Value)} {ep : Nat} {t : SetTable} {Q : Value → Shared → Prop} (R : SetTR P w s.heap a L es ep t) (hh : A.handled = none) (hne : ∀ r ∈ L, r.2 ≠ [])
    (hr : ∀ h' : Heap, (∀ b o, s.heap.get? b = some o → h'.get? b = some o) → ∀ r ∈ L, ∃ as, Reads h' (.ref r.1) (tD r.2) as) (hu : A.units + 4 < cLine)
    (hQ : ∀ s' p (c : Nat) (L' : List Row), (∀ b o, s.heap.get? b = some o → s'.heap.get? b = some o) → s'.gens = s.gens → s'.os = s.os → s.heap.objs.size ≤ p →
      s'.heap.get? p = some (seqObj "list" (refs L').toArray c) → L'.Perm L → L'.Pairwise (fun q r => q.2 ≤ r.2) → Q (.ref p) s') :
    wpAny (model P w) A (call (.builtin "sorted") [.ref a]) Q E s := by
  obtain ⟨o, ho, hex, hd⟩ := R.ob
  have hsz := R.size
  have hfew := R.few
  refine Calls.call_function_entry kind_sorted plain_sorted entry_sorted (args_sorted1 _) ?_
  unfold Builtin.«sorted»
  refine wpAny_bind (m := checkCount "sorted" 1 1 _) (wpAny_pure ?_)
  refine wpAny_bind (collect_set (A := A.in1) hh ⟨o, ho, hex.1, hd⟩ R.fits (by unfold scanBound; omega) R.tab.ris R.led fun s1 vs k1 hz g1 o1 pm => ?_)
  have hes : es.toList.map (·.2) = refs L := by
    rw [R.rows]
    unfold rowsOf refs
    rw [List.map_map] <;> rfl
  rw [hes] at pm
  have ord : ∀ vs : List Value, (∀ v ∈ vs, ∃ q ∈ L, v = Value.ref q.1) → ∃ L1 : List Row, vs = refs L1 ∧ ∀ q ∈ L1, q ∈ L := by
    intro vs
    induction vs with
    | nil => intro _; exact ⟨[], rfl, fun q hq => (by cases hq)⟩
    | cons v vs ih =>
      intro hv
      obtain ⟨q, hq, e⟩ := hv v List.mem_cons_self
      obtain ⟨L1, e1, hs⟩ := ih fun u hu => hv u (List.mem_cons_of_mem _ hu)
      refine ⟨q :: L1, by rw [e, e1] <;> rfl, fun r hr => ?_⟩
      rcases List.mem_cons.mp hr with z | z
      · rw [z]; exact hq
      · exact hs r z
  have one : ∀ q ∈ L, ∀ r ∈ L, q.1 = r.1 → q = r := fun q hq r hr e => by
    have a1 := R.tup q hq
    have a2 := R.tup r hr
    rw [e] at a1
    have e2 : q.2 = r.2 := a1.inj a2
    exact Prod.ext e e2
  have perm_of : ∀ L1 : List Row, (∀ q ∈ L1, q ∈ L) → (refs L1).Perm (refs L) → L1.Perm L := by
    intro L1 hs pm1
    have nL : L.Nodup := nodup_of_map R.nd
    have nref : (refs L).Nodup := by
      refine List.pairwise_map.mpr (List.Pairwise.imp_of_mem (fun {q r} hq hr hne e => ?_) nL)
      injection e with e
      exact hne (one q hq r hr e)
    have n1 : L1.Nodup := nodup_of_map (f := fun q : Row => Value.ref q.1) (pm1.nodup_iff.mpr nref)
    refine (List.perm_ext_iff_of_nodup n1 nL).mpr fun q => ⟨hs q, fun hq => ?_⟩
    have hm : Value.ref q.1 ∈ refs L1 := pm1.mem_iff.mpr (List.mem_map.mpr ⟨q, hq, rfl⟩)
    obtain ⟨r, hr, e⟩ := List.mem_map.mp hm
    injection e with e
    rw [← one r (hs r hr) q hq e]
    exact hr
  have hvl : vs.length < 64 := by rw [pm.length_eq, refs_length]; exact hfew
  obtain ⟨L1, e1, hs1⟩ := ord vs fun v hv => by
    obtain ⟨q, hq, e⟩ := List.mem_map.mp (pm.mem_iff.mp hv)
    exact ⟨q, hq, e.symm⟩
  subst e1
  have p1 : L1.Perm L := perm_of L1 hs1 pm
  have hl1 : L1.length < 64 := by rw [← refs_length]; exact hvl
  refine wpAny_bind (wpAny_newList ?_ (by rw [sizeLine_eq]; omega))
  have hoL : (s1.heap.push (seqObj "list" (refs L1).toArray 0)).get? s1.heap.objs.size = some (seqObj "list" (refs L1).toArray 0) := Heap.get?_push_size _ rfl
  have hr1 : ∀ r ∈ L1, ∃ as, Reads (PySem.W.sortingHeap (s1.heap.push (seqObj "list" (refs L1).toArray 0)) s1.heap.objs.size (refs L1)) (.ref r.1) (tD r.2) as := fun r q =>
    hr _ (fun b u e => by
      have e' := k1 b u e
      exact PySem.W.sortingHeap_old (Nat.ne_of_lt (Heap.lt_size e')) (Heap.get?_push_of_some _ e')) r (hs1 r q)
  refine wpAny_bind (wpAny_holding (sort_rows (s := { s1 with heap := s1.heap.push (seqObj "list" (refs L1).toArray 0) }) hoL hr1 (.inl fun r q => hne r (hs1 r q)) (by rw [sizeLine_eq]; omega) (by show A.units + 1 + 2 < cLine; omega) fun L' hp hs => ?_))
  obtain ⟨c, hc⟩ := sortedHeap_at (vs := refs L1) (out := (refs L').toArray) hoL
  refine wpAny_pure ⟨_, rfl, hQ _ s1.heap.objs.size c L' (fun b u e => ?_) g1 o1 hz hc (hp.trans p1) hs⟩
  have q := k1 b u e
  have hlt := Heap.lt_size q
  show (sortedHeap (s1.heap.push (seqObj "list" (refs L1).toArray 0)) s1.heap.objs.size (refs L1) (refs L').toArray).get? b = some u
  rw [sortedHeap_old (Nat.ne_of_lt hlt) (by rw [size_push']; exact Nat.lt_succ_of_lt hlt)]
  exact Heap.get?_push_of_some _ q
end
section
variable {X : Cx}
/-- set(xs), xs a list of rows -/
def rSetR (P : Program) (w : World) : List V → Hp → VK → Prop := fun xs H Q => ∃ (l : Addr) (ks : List Row), xs = [V.ref l] ∧ H l = some (.lst (vals ks)) ∧ Rws H ks ∧ ks.length < 64 ∧
  ∀ a L, H a = none → (∀ p ∈ L, p ∈ ks) → (∀ p ∈ ks, p.2 ∈ sets L) → Q (.ref a) (upd H a (SetTO P w a L))
theorem cr_setR (hc : X.calm = true) (hu : X.A.units + 64 < cLine) : CallR X (.type "set") (rSetR X.prog X.w) := by
  intro pins s σ H xs us Q I r h
  obtain ⟨l, ks, rfl, hl, hk, hf, q⟩ := h
  exact cr_setOfT hc hu pins s σ H _ us Q I r ⟨l, ks, rfl, SqL.of hl, fun p hp => SqT.of (hk p hp), hf, q⟩
/-- sorted(set) -/
def rSortS (P : Program) (w : World) : List V → Hp → VK → Prop := fun vs H Q => ∃ (a : Addr) (L : List Row), vs = [V.ref a] ∧ H a = some (SetTO P w a L) ∧ Rws H L ∧ (∀ r ∈ L, r.2 ≠ []) ∧
  ∀ (L' : List Row) (p : Addr), L'.Perm L → (sets L').Nodup → L'.length < 64 → L'.Pairwise (fun q r => q.2 ≤ r.2) → H p = none → Q (.ref p) (upd H p (.lst (vals L')))
theorem cr_sortS (hc : X.calm = true) (hu : X.A.units + 4 < cLine) : CallR X (.builtin "sorted") (rSortS X.prog X.w) := by
  intro pins s σ H vs us Q I r h
  obtain ⟨a, L, rfl, ha, hk, hne, q⟩ := h
  have R0 : SetT0 X.prog X.w s.heap a L := (I.hok a _ ha).1
  obtain ⟨es, ep, t, R⟩ := R0.full fun p hp => I.isT (SqT.of (hk p hp))
  rw [Vals.ref1 r]
  refine sorted_setR R (I.ok.hd hc) hne (fun h' k r hr => ?_) hu fun s' p c L' k g o hp hg pm pw => ?_
  · exact reads_rows (I.kept (t' := s.toks) k) hk r hr
  · have hfew : L'.length < 64 := by rw [pm.length_eq]; exact R.few
    have hlen : (vals L').length ≤ sizeLine := by rw [vals_length, sizeLine_eq]; omega
    have hn : H p = none := I.hok.fresh hp
    have J : Inv X pins σ (upd H p (.lst (vals L'))) { s with heap := s'.heap, gens := s'.gens, drawn := s'.drawn, toks := s'.toks } :=
      I.call (ch := []) (Un.laid k hp hn) (I.hok.laid k hp ⟨hlen, refs L', c, vals_refs L', hg⟩) (by rw [g]; exact I.bare) (fun _ z => nomatch z)
    have e : s' = { s with heap := s'.heap, gens := s'.gens, drawn := s'.drawn, toks := s'.toks } := by
      cases s'
      cases s
      cases o
      rfl
    rw [e]
    exact ⟨.ref p, _, J, rfl, q L' p pm ((pm.map (fun r : Row => r.2)).nodup_iff.mpr R.nd) hfew pw hn⟩
end
end MS

/-! The text by places; names; heaps. -/
namespace MS
open PySem PySem.Spec PyProof.Rows L2

def topS (i : Nat) : Stmt := PySem.Challenge.pw_meetsets_k15_whole_swaps_lead_anywhere.main.body.getD i (.Pass ⟨0, 0, 0, 0⟩)
abbrev s_is_whole : Stmt := topS 7
abbrev s_is_from : Stmt := topS 8
abbrev s_ground_good : Stmt := topS 9
abbrev s_set_good : Stmt := topS 10
abbrev s_first_flaw : Stmt := topS 11
abbrev s_need_ground : Stmt := topS 12
abbrev s_need_family : Stmt := topS 13
abbrev s_lies_in : Stmt := topS 14
abbrev s_share_point : Stmt := topS 15
abbrev s_in_order : Stmt := topS 16
abbrev s_sets_below : Stmt := topS 17
abbrev s_other_points : Stmt := topS 19
abbrev s_need_both : Stmt := topS 21
abbrev s_least_among : Stmt := topS 22
abbrev s_first_clash : Stmt := topS 24
abbrev s_is_full : Stmt := topS 25
abbrev s_need_full : Stmt := topS 27
abbrev s_with_opposite : Stmt := topS 28
abbrev s_need_two_full : Stmt := topS 29
abbrev s_first_least : Stmt := topS 30
abbrev s_swaps_to : Stmt := topS 31
abbrev s_swaps_hold : Stmt := topS 32
abbrev s_l_sets : Stmt := topS 34
abbrev s_l_stir : Stmt := topS 35
abbrev s_l_share : Stmt := topS 36
abbrev s_l_lies : Stmt := topS 37
abbrev s_l_rest : Stmt := topS 38
abbrev s_l_cell_at : Stmt := topS 39
abbrev s_l_whole : Stmt := topS 40
abbrev s_l_full_by : Stmt := topS 41
abbrev s_l_led : Stmt := topS 42
abbrev s_law : Stmt := topS 43

/-- the built-ins are still the built-ins -/
structure Blt (mg : Str → Option Value) : Prop where
  isi : mg "isinstance" = none
  int : mg "int" = none
  bool : mg "bool" = none
  tup : mg "tuple" = none
  lst : mg "list" = none
  len : mg "len" = none
  rng : mg "range" = none
  srt : mg "sorted" = none
  dic : mg "dict" = none
  enu : mg "enumerate" = none
  set : mg "set" = none
  all : mg "all" = none

/-! ### heaps -/
theorem same_upd {H : Hp} {p : Addr} {o : HO} (h : H p = none) : Same H (upd H p o) := fun b x e => by
  rw [upd_ne (ne_of_none e h)]
  exact e
theorem Rws.same {H H' : Hp} {L : List Row} (e : Same H H') (h : Rws H L) : Rws H' L := fun r hr => e _ _ (h r hr)
/-- tuples stay -/
def KT (H H' : Hp) : Prop := ∀ b xs, H b = some (.tup xs) → H' b = some (.tup xs)
theorem KT.of {H H' : Hp} (e : Same H H') : KT H H' := fun b xs h => e _ _ h
theorem KT.upd {H : Hp} {D : Addr} {xs : List V} {o : HO} (h : H D = some (.lst xs)) : KT H (upd H D o) := fun b ys e => by
  rw [upd_ne (ne_of e h (by intro z; cases z))]
  exact e
theorem KT.trans {H H1 H2 : Hp} (a : KT H H1) (b : KT H1 H2) : KT H H2 := fun c xs h => b _ _ (a _ _ h)
theorem Rws.kt {H H' : Hp} {L : List Row} (e : KT H H') (h : Rws H L) : Rws H' L := fun r hr => e _ _ (h r hr)
/-- what stood before D came stays when D is written -/
theorem same_wr {H H1 : Hp} {D : Addr} {o : HO} (e : Same H H1) (n : H D = none) : Same H (upd H1 D o) := fun b x h => by
  rw [upd_ne (ne_of_none h n)]
  exact e b x h
theorem vals_get {L : List Row} {i : Nat} {r : Row} (h : L[i]? = some r) : (vals L)[i]? = some (V.ref r.1) := by
  unfold vals
  rw [List.getElem?_map, h]
  rfl
theorem vals_at {L : List Row} {i : Nat} {x : V} (h : (vals L)[i]? = some x) : ∃ r, L[i]? = some r ∧ x = V.ref r.1 := by
  unfold vals at h
  rw [List.getElem?_map] at h
  cases e : L[i]? with
  | none => rw [e] at h; cases h
  | some r =>
    rw [e] at h
    exact ⟨r, rfl, (Option.some.inj h).symm⟩
theorem mem_at {L : List Row} {i : Nat} {r : Row} (h : L[i]? = some r) : r ∈ L := List.mem_of_getElem? h
theorem take_at {α : Type} {l : List α} {i : Nat} {x : α} (h : l[i]? = some x) : l.take (i + 1) = l.take i ++ [x] := by rw [List.take_add_one, h]; rfl

/-! ### comprehensions -/
/-- over a walk: the list so far is cs by val, f tells it by the turn; what stood stays -/
theorem lc_gen {J : It} {n : Nat} {G : Hp → Prop} {Y : Nat → Hp → V → Hp → Prop} (w : Walk J n G Y) {g : TG} {tt : TT} {te : TE} {vs : List Nat} {σ : L2.St} {H1 : Hp} {D : Addr} {Qd : Hp → Prop} {γ : Type}
    (val : γ → V) (ok : Hp → γ → Prop) (f : Nat → List γ → Prop) (hD : H1 D = none) (hn : n ≤ 1000) (hG : ∀ H, Same H1 H → G H) (okm : ∀ H H' c, KT H H' → ok H c → ok H' c) (h0 : f 0 [])
    (hs : ∀ i x H H' cs (Nx : Hp → Prop), i < n → Same H1 H → H D = some (.lst (cs.map val)) → (∀ c ∈ cs, ok H c) → f i cs → Y i H x H' →
      (∀ H3, Same H H3 → f (i + 1) cs → Nx H3) →
      (∀ c H4, Same H H4 → ok H4 c → f (i + 1) (cs ++ [c]) → ∃ acc, H4 D = some (.lst acc) ∧ acc.length < sizeLine ∧ Nx (upd H4 D (.lst (acc ++ [val c])))) →
      g x (wipe σ vs) H' fun σ2 H2 => wipe σ2 vs = wipe σ vs ∧ tt σ2 H2 fun b H3 =>
        if b = true then te σ2 H3 fun y H4 => ∃ acc, H4 D = some (.lst acc) ∧ acc.length < sizeLine ∧ Nx (upd H4 D (.lst (acc ++ [y]))) else Nx H3)
    (hd : ∀ H cs, Same H1 H → H D = some (.lst (cs.map val)) → (∀ c ∈ cs, ok H c) → f n cs → Qd H) :
    ∃ W : Nat → Nat → Hp → Prop, (∃ m, W 0 m (upd H1 D (.lst []))) ∧ ∀ i m H, W i m H →
      (J.stop i H ∧ Qd H) ∨ (J.go i H ∧ ∃ Nx : Hp → Prop, (∀ H', Nx H' → ∃ m', m' < m ∧ W (i + 1) m' H') ∧ ∀ x H', J.yld i H x H' → g x (wipe σ vs) H' fun σ2 H2 => wipe σ2 vs = wipe σ vs ∧ tt σ2 H2 fun b H3 =>
        if b = true then te σ2 H3 fun y H4 => ∃ acc, H4 D = some (.lst acc) ∧ acc.length < sizeLine ∧ Nx (upd H4 D (.lst (acc ++ [y]))) else Nx H3) := by
  refine lc_it w (Pv := fun i H => ∃ cs : List γ, cs.length ≤ i ∧ Same H1 H ∧ H D = some (.lst (cs.map val)) ∧ (∀ c ∈ cs, ok H c) ∧ f i cs) ⟨[], Nat.le_refl _, same_upd hD, upd_same, (fun c hc => by cases hc), h0⟩ (fun i H _ ⟨cs, _, h, _⟩ => hG H h) (fun i x H H' hi ⟨cs, hl, hS, hDl, hok, hf⟩ hy => ?_) fun H ⟨cs, _, hS, hDl, hok, hf⟩ => hd H cs hS hDl hok hf
  refine hs i x H H' cs _ hi hS hDl hok hf hy (fun H3 h3 f3 => ⟨cs, Nat.le_succ_of_le hl, hS.trans h3, h3 _ _ hDl, fun c hc => okm _ _ c (KT.of h3) (hok c hc), f3⟩) fun c H4 h4 o4 f4 => ?_
  refine ⟨cs.map val, h4 _ _ hDl, ?_, cs ++ [c], ?_, same_wr (hS.trans h4) hD, ?_, fun d hd' => ?_, f4⟩
  · rw [List.length_map]
    exact small1000 (by omega)
  · rw [List.length_append]
    exact Nat.succ_le_succ hl
  · rw [upd_same, List.map_append]
    rfl
  · have k : KT H4 (upd H4 D (.lst (cs.map val ++ [val c]))) := KT.upd (h4 _ _ hDl)
    rcases List.mem_append.mp hd' with q | q
    · exact okm _ _ d ((KT.of h4).trans k) (hok d q)
    · rw [List.mem_singleton.mp q]
      exact okm _ _ c k o4

/-! ### callees -/
section
variable {P : Program} {w : World} {K : PySem.W.Frag} {mg : Str → Option Value} {base : Heap}
/-- the def nm keeps the promise sp, by level k -/
def Cal (P : Program) (w : World) (K : PySem.W.Frag) (mg : Str → Option Value) (base : Heap) (k : Nat) (nm : Str) (ps : List Str) (sp : Sp) : Prop :=
  ∃ (f : Addr) (fd : FuncData), FnOk P w K mg base CX0 k f fd ps sp ∧ mg nm = some (.ref f) ∧ PySem.W.keepIn K (.ref f) = true ∧ Binds K fd ps []
end
section
variable {X : Cx} {j k : Nat} {nm : Str} {ps : List Str} {sp : Sp} {e : Expr} {es : List Expr} {t : TA} {p pos : Pos}
theorem pe_cal (c : Cal X.prog X.w X.K X.mg X.base k nm ps sp) (hr : Room j X.A) (ha : PA X (e :: es) t) (h : k ≤ j := by decide) (hg : Gl X nm := by rfl) (hdb : (nm == ("__debug__" : Str)) = false := by decide)
    (he : starEach (e :: es) X.env = (false, eval e X.env) :: starEach es X.env := by rfl) (hpl : (backTo pos (starEach es X.env)).any (·.1) = false := by rfl) : PE X (.Call (.Name nm p) (e :: es) [] pos) (tCall sp [] E0 t) := by
  obtain ⟨f, fd, G, g, kp, b⟩ := c
  exact pe_call G (hr.mono h) hg g kp b .nil pass0 ha hdb he hpl
end
theorem q_dec {p : Prop} [Decidable p] {Q : V → Prop} (h : p) (q : Q (.bl true)) : Q (.bl (decide p)) := by rw [decide_eq_true h]; exact q
theorem inV_ints (x : Int) (t : S) : inV (.int x) (t.map V.int) = decide (x ∈ t) := by
  unfold inV
  rw [List.any_map]
  by_cases h : x ∈ t
  · rw [decide_eq_true h, List.any_eq_true]
    exact ⟨x, h, beq_self_eq_true x⟩
  · rw [decide_eq_false h, List.any_eq_false]
    intro y hy q
    have e : (y == x) = true := q
    exact h (by rw [← eq_of_beq e]; exact hy)
theorem flat_ints (t : S) : (t.map V.int).all flatV = true := by
  rw [List.all_map, List.all_eq_true]
  intro x _
  rfl
theorem ints_get {s : S} {i : Nat} {x : Int} (h : s[i]? = some x) : (s.map V.int)[i]? = some (.int x) := by rw [List.getElem?_map, h]; rfl
theorem ints_at {s : S} {i : Nat} {x : V} (h : (s.map V.int)[i]? = some x) : ∃ y, s[i]? = some y ∧ x = .int y := by
  rw [List.getElem?_map] at h
  cases e : s[i]? with
  | none => rw [e] at h; cases h
  | some r =>
    rw [e] at h
    exact ⟨r, rfl, (Option.some.inj h).symm⟩
/-- ns ≤ ms is false where ms < ns -/
theorem lex_no : ∀ (ns ms : S) (e r : Nat → Bool) (z : Bool) (i : Nat), (∀ j, e (i + j) = decide (ns.getD j 0 = ms.getD j 0)) → (∀ j, r (i + j) = decide (ns.getD j 0 ≤ ms.getD j 0)) → z = decide (ns.length ≤ ms.length) → ms < ns →
    Ob.lexAt e r z i (min ns.length ms.length) = false
  | [], ms, e, r, z, i, he, hr, hz, h => absurd h (by simp)
  | x :: ns, [], e, r, z, i, he, hr, hz, h => by
    show z = false
    rw [hz]
    simp
  | x :: ns, y :: ms, e, r, z, i, he, hr, hz, h => by
    have e0 : min (x :: ns).length (y :: ms).length = min ns.length ms.length + 1 := by simp only [List.length_cons]; omega
    rw [e0, Ob.lexAt_succ]
    have h0 : e i = decide (x = y) := he 0
    have r0 : r i = decide (x ≤ y) := hr 0
    by_cases hxy : x = y
    · rw [h0, decide_eq_true hxy, if_pos rfl]
      refine lex_no ns ms e r z (i + 1) (fun j => ?_) (fun j => ?_) ?_ ?_
      · have := he (j + 1)
        rw [show i + 1 + j = i + (j + 1) by omega, this]
        rfl
      · have := hr (j + 1)
        rw [show i + 1 + j = i + (j + 1) by omega, this]
        rfl
      · rw [hz]
        simp
      · rcases List.cons_lt_cons_iff.mp h with q | q
        · omega
        · exact q.2
    · rw [h0, decide_eq_false hxy, if_neg (by decide), r0, decide_eq_false]
      rcases List.cons_lt_cons_iff.mp h with q | q
      · omega
      · exact absurd q.1.symm hxy
theorem hu65 {A : Around} {k : Nat} (hr : Room k A) : A.units + 65 < cLine := by have := hr.un; omega
theorem hu64 {A : Around} {k : Nat} (hr : Room k A) : A.units + 64 < cLine := by have := hr.un; omega
theorem hu4 {A : Around} {k : Nat} (hr : Room k A) : A.units + 4 < cLine := by have := hr.un; omega
theorem hu3 {A : Around} {k : Nat} (hr : Room k A) : A.units + 3 < cLine := by have := hr.un; omega
theorem hu2 {A : Around} {k : Nat} (hr : Room k A) : A.units + 2 < cLine := by have := hr.un; omega
theorem hu0 {A : Around} {k : Nat} (hr : Room k A) : A.units < cLine := by have := hr.un; omega
theorem nodup_len {α : Type} [DecidableEq α] : ∀ {l m : List α}, l.Nodup → (∀ x ∈ l, x ∈ m) → l.length ≤ m.length
  | [], _, _, _ => Nat.zero_le _
  | x :: l, m, h, hs => by
    obtain ⟨h1, h2⟩ := List.nodup_cons.mp h
    have hx := hs x List.mem_cons_self
    have ih := nodup_len (l := l) (m := m.erase x) h2 fun y hy => (List.mem_erase_of_ne (fun e => h1 (by rw [← e]; exact hy))).mpr (hs y (List.mem_cons_of_mem _ hy))
    rw [List.length_erase_of_mem hx] at ih
    have : 0 < m.length := List.length_pos_of_mem hx
    simp only [List.length_cons]
    omega
theorem tyes {σ : L2.St} {H : Hp} {A B : Hp → Prop} (h : A H) : tYes σ H fun b H3 => if b = true then A H3 else B H3 := iteT (A := A H) (B := B H) h
end MS

/-! is_whole .. need_family, lies_in, share_point. -/
namespace MS
open PySem PySem.Spec PyProof.Rows L2
section
variable {P : Program} {w : World} {K : PySem.W.Frag} {mg : Str → Option Value} {base : Heap}
theorem sc_is_whole : FnScope ["thing"] ["thing"] (defScope s_is_whole) := ⟨rfl, rfl, rfl, by decide +kernel, rfl, by decide +kernel, by decide +kernel⟩
def sp_is_whole : Sp := fun vs H Q _ => ∃ i : Int, vs = [.int i] ∧ Q (.bl true) H
theorem ok_is_whole {f : Addr} {fd : FuncData} (F : Fun K "is_whole" "is_whole" s_is_whole f fd) (B : Blt mg) : FnOk P w K mg base CX0 1 f fd ["thing"] sp_is_whole := by
  refine F.ok sc_is_whole (fun vs H Q E h => ?_) (fun cdv A outer s H vs Q E hr h => ?_)
  · obtain ⟨i, rfl, _⟩ := h
    rfl
  · obtain ⟨i, rfl, q⟩ := h
    refine ⟨_, pss_one (ps_ret (pe_and (pe_callB call_isi (by rfl) B.isi boot_isinstance (pa_cons (pv 0) (pa_cons (pe_bltn (v := .ty "int") (by rfl) B.int boot_int rfl) pa_nil)))
      (pe_one (pe_not (pe_callB call_isi (by rfl) B.isi boot_isinstance (pa_cons (pv 0) (pa_cons (pe_bltn (v := .ty "bool") (by rfl) B.bool boot_bool rfl) pa_nil))))))), ?_⟩
    refine ⟨.int i, rfl, .int i, .ty "int", _, _, true, rfl, .ty "int", .base (.int i), kit_ty (by decide +kernel), true, rfl, iteT ?_⟩
    exact ⟨.int i, rfl, .int i, .ty "bool", _, _, false, rfl, .ty "bool", .base (.int i), kit_ty (by decide +kernel), false, rfl, q⟩

theorem sc_is_from : FnScope ["thing", "least", "most"] ["thing", "least", "most"] (defScope s_is_from) := ⟨rfl, rfl, rfl, by decide +kernel, rfl, by decide +kernel, by decide +kernel⟩
def sp_is_from : Sp := fun vs H Q _ => ∃ i lo hi : Int, vs = [.int i, .int lo, .int hi] ∧ lo ≤ i ∧ i ≤ hi ∧ Q (.bl true) H
theorem ok_is_from {f : Addr} {fd : FuncData} (F : Fun K "is_from" "is_from" s_is_from f fd) (c1 : Cal P w K mg base 1 "is_whole" ["thing"] sp_is_whole) : FnOk P w K mg base CX0 2 f fd ["thing", "least", "most"] sp_is_from := by
  refine F.ok sc_is_from (fun vs H Q E h => ?_) (fun cdv A outer s H vs Q E hr h => ?_)
  · obtain ⟨i, lo, hi, rfl, _⟩ := h
    rfl
  · obtain ⟨i, lo, hi, rfl, h1, h2, q⟩ := h
    refine ⟨_, pss_one (ps_ret (pe_and (pe_cal c1 hr (pa_cons (pv 0) pa_nil)) (pe_one (pe_chain op_le op_le (pv 1) (pv 0) (pv 2))))), ?_⟩
    refine ⟨.int i, rfl, i, rfl, true, rfl, iteT ?_⟩
    refine ⟨_, rfl, _, rfl, _, _, rfl, rfl, true, congrArg V.bl (decide_eq_true h1), iteT ⟨_, rfl, _, _, rfl, rfl, ?_⟩⟩
    exact q_dec (Q := fun v => Q v H) h2 q

theorem sc_ground_good : FnScope ["thing"] ["thing"] (defScope s_ground_good) := ⟨rfl, rfl, rfl, by decide +kernel, rfl, by decide +kernel, by decide +kernel⟩
def sp_ground_good : Sp := fun vs H Q _ => ∃ n : Nat, vs = [.int n] ∧ 1 ≤ n ∧ n ≤ 5 ∧ Q (.bl true) H
theorem ok_ground_good {f : Addr} {fd : FuncData} (F : Fun K "ground_good" "ground_good" s_ground_good f fd) (c1 : Cal P w K mg base 2 "is_from" ["thing", "least", "most"] sp_is_from) {t : Tok} (mp : mg "MOST_POINTS" = some (.int 8 t)) : FnOk P w K mg base CX0 3 f fd ["thing"] sp_ground_good := by
  refine F.ok sc_ground_good (fun vs H Q E h => ?_) (fun cdv A outer s H vs Q E hr h => ?_)
  · obtain ⟨n, rfl, _⟩ := h
    rfl
  · obtain ⟨n, rfl, h1, h2, q⟩ := h
    refine ⟨_, pss_one (ps_ret (pe_cal c1 hr (pa_cons (pv 0) (pa_cons pe_int (pa_cons (pe_glob (v := .int 8) (by rfl) mp ⟨_, rfl⟩) pa_nil))))), ?_⟩
    exact ⟨_, rfl, _, _, _, rfl, by omega, by omega, q⟩

theorem sc_set_good : FnScope ["n", "thing", "last", "point"] ["n", "thing"] (defScope s_set_good) := ⟨rfl, rfl, rfl, by decide +kernel, rfl, by decide +kernel, by decide +kernel⟩
def sp_set_good : Sp := fun vs H Q _ => ∃ (n : Nat) (a : Addr) (s : S), vs = [.int n, .ref a] ∧ IsR H a s ∧ good n s ∧ Q (.bl true) H
theorem good_next {n : Nat} {s : S} (g : good n s) {i : Nat} {x : Int} (h : s[i]? = some x) : ∀ z ∈ s.drop (i + 1), x < z := by
  have hi := (List.getElem?_eq_some_iff.mp h).1
  have e : s.drop i = x :: s.drop (i + 1) := by
    rw [List.drop_eq_getElem_cons hi]
    have := (List.getElem?_eq_some_iff.mp h).2
    rw [this]
  have p := g.1.sublist (List.drop_sublist i s)
  rw [e] at p
  exact (List.pairwise_cons.mp p).1
theorem mem_drop_at {s : S} {i : Nat} {x : Int} (h : s[i]? = some x) : x ∈ s.drop i := by
  have hi := (List.getElem?_eq_some_iff.mp h).1
  rw [List.drop_eq_getElem_cons hi]
  have := (List.getElem?_eq_some_iff.mp h).2
  rw [this]
  exact List.mem_cons_self
theorem ok_set_good {f : Addr} {fd : FuncData} (F : Fun K "set_good" "set_good" s_set_good f fd) (B : Blt mg) (c1 : Cal P w K mg base 2 "is_from" ["thing", "least", "most"] sp_is_from) : FnOk P w K mg base CX0 3 f fd ["n", "thing"] sp_set_good := by
  refine F.ok sc_set_good (fun vs H Q E h => ?_) (fun cdv A outer s H vs Q E hr h => ?_)
  · obtain ⟨n, a, z, rfl, _⟩ := h
    rfl
  · obtain ⟨n, a, z, rfl, ha, g, q⟩ := h
    have nd := sc_set_good.nd
    refine ⟨_, pss_cons (ps_if (pt_not (pt_val (pe_callB call_isi (by rfl) B.isi boot_isinstance (pa_cons (pv 1) (pa_cons (pe_bltn (v := .ty "tuple") (by rfl) B.tup boot_tuple rfl) pa_nil))))) pss_never pss_nil)
      (pss_cons (ps_set (i := 2) nd rfl (.inl rfl) (pe_un un_neg pe_int))
      (pss_cons (ps_for PassesOwn.never rfl (pi_tup (pv 1)) (pg_name (i := 3) nd rfl (.inl rfl))
        (pss_cons (ps_if (pt_not (pt_val (pe_cal c1 hr (pa_cons (pv 3) (pa_cons (pe_op op_add (pv 2) pe_int) (pa_cons (pe_op op_sub (pv 0) pe_int) pa_nil)))))) pss_never pss_nil)
        (pss_one (ps_set (i := 2) nd rfl (.inl rfl) (pv 3)))))
      (pss_one (ps_ret pe_bl)))), ?_⟩
    refine ⟨.ref a, rfl, .ref a, .ty "tuple", _, _, true, rfl, .ty "tuple", .base (.tup ha), kit_ty (by decide +kernel), true, rfl, iteF ?_⟩
    refine ⟨1, rfl, ?_⟩
    refine ⟨.ref a, rfl, a, rfl, ⟨_, SqT.of ha⟩, for_it (walk_tup (xs := z.map V.int)) (fun i σ H' => ∃ (l : Int) (y : Option V), σ = [some (.int n), some (.ref a), some (.int l), y] ∧ H' = H ∧ -1 ≤ l ∧ ∀ x ∈ z.drop i, l < x)
      ⟨-1, none, rfl, rfl, Int.le_refl _, fun x hx => by have := (g.2 x (by simpa using hx)).1; omega⟩ (fun i σ H' _ ⟨_, _, _, e, _⟩ => by rw [e]; exact SqT.of ha) (fun i x σ H' H2 hi ⟨l, y, e1, e2, h1, h2⟩ ⟨e3, hx⟩ => ?_) (fun σ H' ⟨l, y, e1, e2, _⟩ => ?_)⟩
    · subst e1 e2 e3
      obtain ⟨u, hu, rfl⟩ := ints_at hx
      have hm := mem_drop_at hu
      have hz := g.2 u (List.mem_of_getElem? hu)
      have hl := h2 u hm
      refine ⟨_, rfl, _, rfl, _, _, rfl, rfl, _, rfl, _, _, rfl, rfl, u, l + 1, n - 1, rfl, by omega, by omega, true, rfl, iteF ?_⟩
      exact ⟨.int u, rfl, u, _, rfl, rfl, by omega, good_next g hu⟩
    · subst e1 e2
      exact q

theorem sc_first_flaw : FnScope ["n", "thing", "at", "one"] ["n", "thing"] (defScope s_first_flaw) := ⟨rfl, rfl, rfl, by decide +kernel, rfl, by decide +kernel, by decide +kernel⟩
def sp_first_flaw : Sp := fun vs H Q _ => ∃ (n : Nat) (a : Addr) (L : List Row), vs = [.int n, .ref a] ∧ H a = some (.tup (vals L)) ∧ Rws H L ∧ (∀ s ∈ sets L, good n s) ∧ (sets L).Pairwise (· < ·) ∧ ∀ H', Same H H' → Q .non H'
theorem srt_at {F : List S} (h : F.Pairwise (· < ·)) {i : Nat} {a b : S} (ha : F[i]? = some a) (hb : F[i + 1]? = some b) : a < b := by
  obtain ⟨h1, e1⟩ := List.getElem?_eq_some_iff.mp ha
  obtain ⟨h2, e2⟩ := List.getElem?_eq_some_iff.mp hb
  have := List.pairwise_iff_getElem.mp h i (i + 1) h1 h2 (Nat.lt_succ_self i)
  rw [e1, e2] at this
  exact this
theorem sets_get {L : List Row} {i : Nat} {r : Row} (h : L[i]? = some r) : (sets L)[i]? = some r.2 := by
  unfold sets
  rw [List.getElem?_map, h]
  rfl
theorem ok_first_flaw {f : Addr} {fd : FuncData} (F : Fun K "first_flaw" "first_flaw" s_first_flaw f fd) (B : Blt mg) (c1 : Cal P w K mg base 3 "set_good" ["n", "thing"] sp_set_good) : FnOk P w K mg base CX0 4 f fd ["n", "thing"] sp_first_flaw := by
  refine F.ok sc_first_flaw (fun vs H Q E h => ?_) (fun cdv A outer s H vs Q E hr h => ?_)
  · obtain ⟨n, a, L, rfl, _⟩ := h
    rfl
  · obtain ⟨n, a, L, rfl, ha, hL, hg, hs, q⟩ := h
    have nd := sc_first_flaw.nd
    refine ⟨_, pss_cons (ps_if (pt_not (pt_val (pe_callB call_isi (by rfl) B.isi boot_isinstance (pa_cons (pv 1) (pa_cons (pe_bltn (v := .ty "tuple") (by rfl) B.tup boot_tuple rfl) pa_nil))))) pss_never pss_nil)
      (pss_cons (ps_for PassesOwn.never rfl (pi_enumT (by rfl) B.enu (pa_cons (pv 1) pa_nil)) (pg_tup rfl (pgs_cons (pg_name (i := 2) nd rfl (.inl rfl)) (pgs_cons (pg_name (i := 3) nd rfl (.inl rfl)) pgs_nil)))
        (pss_one (ps_if (PW.pt (pw_or (pt_not (pt_val (pe_cal c1 hr (pa_cons (pv 0) (pa_cons (pv 3) pa_nil))))) (pw_or1 (PW.pt (pw_and (pt_cmpR op_gt (pv 2) pe_int (nomark _))
          (pw_and1 (pt_cmpR (op_leT (hu0 hr)) (pv 3) (pe_ix ix_tup (pv 1) (pe_op op_sub (pv 2) pe_int) (fun _ _ => rfl)) (nomark _))))))))
          pss_never pss_nil)))
      (pss_one (ps_ret pe_non))), ?_⟩
    refine ⟨.ref a, rfl, .ref a, .ty "tuple", _, _, true, rfl, .ty "tuple", .base (.tup ha), kit_ty (by decide +kernel), true, rfl, iteF ?_⟩
    refine ⟨.ref a, rfl, a, vals L, rfl, SqT.of ha, for_it (walk_enumT (xs := vals L)) (fun i σ H' => ∃ (y2 y3 : Option V), σ = [some (.int n), some (.ref a), y2, y3] ∧ Same H H') ⟨none, none, rfl, Same.refl H⟩ (fun i σ H' _ ⟨_, _, _, e⟩ => SqT.of (e _ _ ha))
      (fun i x σ H' H2 hi ⟨y2, y3, e1, e2⟩ hy => ?_) (fun σ H' ⟨_, _, _, e⟩ => q H' e)⟩
    obtain ⟨T, x1, x2, e3, nT, e4, f1, f2⟩ := hy
    have k1 : V.int (i : Nat) = x1 := Option.some.inj f1
    subst e1 e3 e4 k1
    obtain ⟨r, hr1, rfl⟩ := vals_at f2
    have s2 : Same H (upd H' T (.tup [.int (i : Nat), V.ref r.1])) := e2.trans (same_upd nT)
    refine ⟨T, [.int (i : Nat), .ref r.1], rfl, SqT.of upd_same, rfl, .int (i : Nat), [.ref r.1], rfl, .ref r.1, [], rfl, rfl, ?_⟩
    have hm := mem_at hr1
    refine ⟨_, rfl, _, rfl, n, r.1, r.2, rfl, s2 _ _ (hL r hm), hg _ (mem_sets.mpr ⟨r.1, hm⟩), true, rfl, iteF ?_⟩
    refine ⟨_, rfl, _, _, rfl, rfl, _, rfl, ?_⟩
    cases i with
    | zero => exact iteF (iteF ⟨_, _, rfl, s2⟩)
    | succ i =>
      refine ite2 (fun _ => ?_) (fun _ => iteF ⟨_, _, rfl, s2⟩)
      have hi2 : i < L.length := by
        rw [vals_length] at hi
        omega
      have g0 : L[i]? = some L[i] := List.getElem?_eq_getElem hi2
      have hlt : (L[i]).2 < r.2 := srt_at hs (sets_get g0) (sets_get hr1)
      have hno : Ob.lexAt (fun j => decide (r.2.getD j 0 = (L[i]).2.getD j 0)) (fun j => decide (r.2.getD j 0 ≤ (L[i]).2.getD j 0)) (decide (r.2.length ≤ (L[i]).2.length)) 0 (min r.2.length (L[i]).2.length) = false :=
        lex_no r.2 (L[i]).2 _ _ _ 0 (fun j => by rw [Nat.zero_add]) (fun j => by rw [Nat.zero_add]) rfl hlt
      refine ⟨_, rfl, _, rfl, _, rfl, _, _, rfl, rfl, a, vals L, ((i + 1 : Nat) : Int) - 1, .ref (L[i]).1, rfl, rfl, SqT.of (s2 _ _ ha), ?_, r.1, (L[i]).1, r.2, (L[i]).2, rfl, rfl, SqT.of (s2 _ _ (hL r hm)), SqT.of (s2 _ _ (hL _ (mem_at g0))), _, rfl, ?_⟩
      · have ei : ((i + 1 : Nat) : Int) - 1 = ((i : Nat) : Int) := by omega
        rw [ei]
        exact atI_nat (vals_get g0)
      · rw [hno]
        exact iteF ⟨_, _, rfl, s2⟩

theorem sc_need_ground : FnScope ["n"] ["n"] (defScope s_need_ground) := ⟨rfl, rfl, rfl, by decide +kernel, rfl, by decide +kernel, by decide +kernel⟩
def sp_need_ground : Sp := fun vs H Q _ => ∃ n : Nat, vs = [.int n] ∧ 1 ≤ n ∧ n ≤ 5 ∧ Q .non H
theorem ok_need_ground {f : Addr} {fd : FuncData} (F : Fun K "need_ground" "need_ground" s_need_ground f fd) (c1 : Cal P w K mg base 3 "ground_good" ["thing"] sp_ground_good) : FnOk P w K mg base CX0 4 f fd ["n"] sp_need_ground := by
  refine F.ok sc_need_ground (fun vs H Q E h => ?_) (fun cdv A outer s H vs Q E hr h => ?_)
  · obtain ⟨n, rfl, _⟩ := h
    rfl
  · obtain ⟨n, rfl, h1, h2, q⟩ := h
    refine ⟨_, pss_one (ps_if (pt_not (pt_val (pe_cal c1 hr (pa_cons (pv 0) pa_nil)))) pss_never pss_nil), ?_⟩
    exact ⟨_, rfl, n, rfl, h1, h2, true, rfl, iteF q⟩

theorem sc_need_family : FnScope ["n", "family", "at"] ["n", "family"] (defScope s_need_family) := ⟨rfl, rfl, rfl, by decide +kernel, rfl, by decide +kernel, by decide +kernel⟩
def sp_need_family : Sp := fun vs H Q _ => ∃ (n : Nat) (a : Addr) (L : List Row), vs = [.int n, .ref a] ∧ H a = some (.tup (vals L)) ∧ Rws H L ∧ (∀ s ∈ sets L, good n s) ∧ (sets L).Pairwise (· < ·) ∧ ∀ H', Same H H' → Q .non H'
theorem ok_need_family {f : Addr} {fd : FuncData} (F : Fun K "need_family" "need_family" s_need_family f fd) (c1 : Cal P w K mg base 4 "first_flaw" ["n", "thing"] sp_first_flaw) : FnOk P w K mg base CX0 5 f fd ["n", "family"] sp_need_family := by
  refine F.ok sc_need_family (fun vs H Q E h => ?_) (fun cdv A outer s H vs Q E hr h => ?_)
  · obtain ⟨n, a, L, rfl, _⟩ := h
    rfl
  · obtain ⟨n, a, L, rfl, ha, hL, hg, hs, q⟩ := h
    refine ⟨_, pss_cons (ps_set (i := 2) sc_need_family.nd rfl (.inl rfl) (pe_cal c1 hr (pa_cons (pv 0) (pa_cons (pv 1) pa_nil))))
      (pss_one (ps_if (pt_cmp (pc_notN (pv 2))) pss_never pss_nil)), ?_⟩
    exact ⟨_, rfl, _, rfl, n, a, L, rfl, ha, hL, hg, hs, fun H' e => ⟨_, rfl, false, rfl, iteF (q H' e)⟩⟩

theorem sc_lies_in : FnScope ["one", "other", "point"] ["one", "other"] (defScope s_lies_in) := ⟨rfl, rfl, rfl, by decide +kernel, rfl, by decide +kernel, by decide +kernel⟩
def sp_lies_in : Sp := fun vs H Q _ => ∃ (a b : Addr) (s t : S), vs = [.ref a, .ref b] ∧ IsR H a s ∧ IsR H b t ∧ Q (.bl (subB s t)) H
theorem take_snoc_all {s : S} {i : Nat} {x : Int} {p : Int → Prop} (h : s[i]? = some x) (h1 : ∀ y ∈ s.take i, p y) (h2 : p x) : ∀ y ∈ s.take (i + 1), p y := fun y hy => by
  rw [take_at h] at hy
  rcases List.mem_append.mp hy with q | q
  · exact h1 y q
  · rw [List.mem_singleton.mp q]
    exact h2
theorem ok_lies_in {f : Addr} {fd : FuncData} (F : Fun K "lies_in" "lies_in" s_lies_in f fd) : FnOk P w K mg base CX0 1 f fd ["one", "other"] sp_lies_in := by
  refine F.ok sc_lies_in (fun vs H Q E h => ?_) (fun cdv A outer s H vs Q E hr h => ?_)
  · obtain ⟨a, b, z, t, rfl, _⟩ := h
    rfl
  · obtain ⟨a, b, z, t, rfl, ha, hb, q⟩ := h
    refine ⟨_, pss_cons (ps_for PassesOwn.never rfl (pi_tup (pv 0)) (pg_name (i := 2) sc_lies_in.nd rfl (.inl rfl)) (pss_one (ps_if (pt_cmpR op_notIn_seq (pv 2) (pv 1) (by rfl)) (pss_one (ps_ret pe_bl)) pss_nil))) (pss_one (ps_ret pe_bl)), ?_⟩
    refine ⟨.ref a, rfl, a, rfl, ⟨_, SqT.of ha⟩, for_it (walk_tup (xs := z.map V.int)) (fun i σ H' => ∃ (y : Option V), σ = [some (.ref a), some (.ref b), y] ∧ H' = H ∧ ∀ x ∈ z.take i, x ∈ t)
      ⟨none, rfl, rfl, fun x hx => by simp at hx⟩ (fun i σ H' _ ⟨_, _, e, _⟩ => by rw [e]; exact SqT.of ha) (fun i x σ H' H2 hi ⟨y, e1, e2, h1⟩ ⟨e3, hx⟩ => ?_) (fun σ H' ⟨y, e1, e2, h1⟩ => ?_)⟩
    · subst e1 e2 e3
      obtain ⟨u, hu, rfl⟩ := ints_at hx
      refine ⟨_, rfl, _, rfl, b, t.map V.int, rfl, .inr (SqT.of hb), rfl, flat_ints t, _, rfl, ?_⟩
      rw [inV_ints, if_pos rfl]
      by_cases h : u ∈ t
      · rw [decide_eq_true h]
        exact iteF ⟨_, rfl, rfl, take_snoc_all hu h1 h⟩
      · rw [decide_eq_false h]
        refine iteT ?_
        have : subB z t = false := Bool.eq_false_iff.mpr fun e => h (subB_iff.mp e u (List.mem_of_getElem? hu))
        show Q (.bl false) H2
        rw [← this]
        exact q
    · subst e1 e2
      have : subB z t = true := subB_iff.mpr fun x hx => h1 x (by rw [List.length_map, List.take_length]; exact hx)
      show Q (.bl true) _
      rw [← this]
      exact q

theorem sc_share_point : FnScope ["one", "other", "point"] ["one", "other"] (defScope s_share_point) := ⟨rfl, rfl, rfl, by decide +kernel, rfl, by decide +kernel, by decide +kernel⟩
def sp_share_point : Sp := fun vs H Q _ => ∃ (a b : Addr) (s t : S), vs = [.ref a, .ref b] ∧ IsR H a s ∧ IsR H b t ∧ Q (.bl (meetB s t)) H
theorem ok_share_point {f : Addr} {fd : FuncData} (F : Fun K "share_point" "share_point" s_share_point f fd) : FnOk P w K mg base CX0 1 f fd ["one", "other"] sp_share_point := by
  refine F.ok sc_share_point (fun vs H Q E h => ?_) (fun cdv A outer s H vs Q E hr h => ?_)
  · obtain ⟨a, b, z, t, rfl, _⟩ := h
    rfl
  · obtain ⟨a, b, z, t, rfl, ha, hb, q⟩ := h
    refine ⟨_, pss_cons (ps_for PassesOwn.never rfl (pi_tup (pv 0)) (pg_name (i := 2) sc_share_point.nd rfl (.inl rfl)) (pss_one (ps_if (pt_cmpR op_in_seq (pv 2) (pv 1) (by rfl)) (pss_one (ps_ret pe_bl)) pss_nil))) (pss_one (ps_ret pe_bl)), ?_⟩
    refine ⟨.ref a, rfl, a, rfl, ⟨_, SqT.of ha⟩, for_it (walk_tup (xs := z.map V.int)) (fun i σ H' => ∃ (y : Option V), σ = [some (.ref a), some (.ref b), y] ∧ H' = H ∧ ∀ x ∈ z.take i, x ∉ t)
      ⟨none, rfl, rfl, fun x hx => by simp at hx⟩ (fun i σ H' _ ⟨_, _, e, _⟩ => by rw [e]; exact SqT.of ha) (fun i x σ H' H2 hi ⟨y, e1, e2, h1⟩ ⟨e3, hx⟩ => ?_) (fun σ H' ⟨y, e1, e2, h1⟩ => ?_)⟩
    · subst e1 e2 e3
      obtain ⟨u, hu, rfl⟩ := ints_at hx
      refine ⟨_, rfl, _, rfl, b, t.map V.int, rfl, .inr (SqT.of hb), rfl, flat_ints t, _, rfl, ?_⟩
      rw [inV_ints, if_neg (by decide)]
      by_cases h : u ∈ t
      · rw [decide_eq_true h]
        refine iteT ?_
        have : meetB z t = true := meetB_iff.mpr ⟨u, List.mem_of_getElem? hu, h⟩
        show Q (.bl true) H2
        rw [← this]
        exact q
      · rw [decide_eq_false h]
        exact iteF ⟨_, rfl, rfl, take_snoc_all hu h1 h⟩
    · subst e1 e2
      have : meetB z t = false := Bool.eq_false_iff.mpr fun e => by
        obtain ⟨x, m1, m2⟩ := meetB_iff.mp e
        exact h1 x (by rw [List.length_map, List.take_length]; exact m1) m2
      show Q (.bl false) _
      rw [← this]
      exact q
end
end MS

/-! in_order, sets_below, other_points, need_both, least_among. -/
namespace MS
open PySem PySem.Spec PyProof.Rows L2
section
variable {P : Program} {w : World} {K : PySem.W.Frag} {mg : Str → Option Value} {base : Heap}
theorem srt_of {M : List Row} (h : M.Pairwise fun q r => q.2 ≤ r.2) (nd : (sets M).Nodup) : (sets M).Pairwise (· < ·) := by
  unfold sets at nd ⊢
  rw [List.pairwise_map]
  rw [List.Nodup, List.pairwise_map] at nd
  refine List.Pairwise.imp₂ (R := fun q r : Row => q.2 ≤ r.2) (S := fun q r : Row => q.2 ≠ r.2) (fun {a b} h1 h2 => ?_) h nd
  rcases Classical.em (a.2 < b.2) with q | q
  · exact q
  · exact absurd (List.le_antisymm h1 (List.not_lt.mp q)) h2
theorem sc_in_order : FnScope ["sets", "one"] ["sets"] (defScope s_in_order) := ⟨rfl, rfl, rfl, by decide +kernel, rfl, by decide +kernel, by decide +kernel⟩
def sp_in_order : Sp := fun vs H Q _ => ∃ (a : Addr) (L : List Row), vs = [.ref a] ∧ H a = some (.lst (vals L)) ∧ Rws H L ∧ (∀ r ∈ L, r.2 ≠ []) ∧ L.length ≤ 1000 ∧
  ∀ H' p M, Same H H' → H' p = some (.tup (vals M)) → Rws H' M → (sets M).Pairwise (· < ·) → (∀ s, s ∈ sets M ↔ s ∈ sets L) → Q (.ref p) H'
theorem ok_in_order {f : Addr} {fd : FuncData} (F : Fun K "in_order" "in_order" s_in_order f fd) (B : Blt mg) : FnOk P w K mg base CX0 1 f fd ["sets"] sp_in_order := by
  refine F.ok sc_in_order (fun vs H Q E h => ?_) (fun cdv A outer s H vs Q E hr h => ?_)
  · obtain ⟨a, L, rfl, _⟩ := h
    rfl
  · obtain ⟨a, L, rfl, ha, hL, hne, hn, q⟩ := h
    have nd := sc_in_order.nd
    refine ⟨_, pss_one (ps_ret (pe_callTy call_tuple_of (by rfl) B.tup boot_tuple (pa_cons (pe_callB (cr_sortD rfl (hu4 hr)) (by rfl) B.srt boot_sorted (pa_cons (pe_callTy (cr_dicR rfl (hu2 hr)) (by rfl) B.dic boot_dict
      (pa_cons (pe_lc (own := [("one", 1)]) (g := gName 1) (tt := tYes) rfl nd (pi_list (pv 0)) (blkOk_by (own := [("one", 1)]) (N := ["sets", "one"]) (sc := defScope s_in_order) (by decide +kernel)) (fun _ _ _ _ _ => pg_name (i := 1) nd rfl (.inl rfl)) (fun _ _ _ _ _ => pts_nil) (fun _ _ _ _ _ => pe_tup (pa_cons (pv 1) (pa_cons pe_bl pa_nil))))
        pa_nil)) pa_nil)) pa_nil))), ?_⟩
    refine ⟨.ref a, rfl, a, rfl, ⟨_, SqL.of ha⟩, fun D hD => lc_gen (γ := Addr × Row) (walk_list (xs := vals L)) (fun c => .ref c.1) (fun H c => H c.1 = some (.tup [.ref c.2.1, .bl true])) (fun i cs => cs.map (·.2) = L.take i) hD (by rw [vals_length]; exact hn)
      (fun H' e => SqL.of (e _ _ ha)) (fun H1 H2 c e h => e _ _ h) rfl (fun i x H1 H2 cs Nx hi hS hDl hok hf hy drop keep => ?_) fun H1 cs hS hDl hok hf => ?_⟩
    · obtain ⟨rfl, hx⟩ := hy
      obtain ⟨r, hr1, rfl⟩ := vals_at hx
      refine ⟨rfl, tyes ⟨_, rfl, by show 2 ≤ sizeLine; decide, fun t nt => ?_⟩⟩
      exact keep (t, r) _ (same_upd nt) upd_same (by rw [List.map_append, hf, take_at hr1]; rfl)
    · rw [vals_length, List.take_length] at hf
      refine ⟨D, cs.map (·.1), L, rfl, by rw [hDl, List.map_map]; rfl, by rw [List.length_map, ← hf, List.length_map], fun i t r ht hr1 => ?_, hL.same hS, fun d M nd1 hM hc hnd => ?_⟩
      · rw [List.getElem?_map] at ht
        rw [← hf, List.getElem?_map] at hr1
        cases e : cs[i]? with
        | none => rw [e] at ht; cases ht
        | some c =>
          rw [e] at ht hr1
          have e1 : c.1 = t := Option.some.inj ht
          have e2 : c.2 = r := Option.some.inj hr1
          rw [← e1, ← e2]
          exact hok c (List.mem_of_getElem? e)
      · have hML : Rws H1 M := (hL.same hS).sub hM
        have hMl : M.length ≤ 1000 := by
          have h1 : (sets M).Nodup := hnd
          have h2 : ∀ x ∈ sets M, x ∈ sets L := fun x hx => by
            obtain ⟨b, hb⟩ := mem_sets.mp hx
            exact mem_sets.mpr ⟨b, hM _ hb⟩
          have := nodup_len h1 h2
          rw [sets_length, sets_length] at this
          omega
        refine ⟨d, M, rfl, upd_same, hML.same (same_upd nd1), .inl fun r hr1 => hne r (hM r hr1), hMl, fun M' p hp hs np => ?_⟩
        refine ⟨p, vals M', rfl, .inl ⟨SqL.of upd_same, fun l nl => ?_⟩⟩
        have s1 : Same H1 (upd (upd (upd H1 d (DicO d M)) p (.lst (vals M'))) l (.tup (vals M'))) := ((same_upd nd1).trans (same_upd np)).trans (same_upd nl)
        refine q _ l M' (hS.trans s1) upd_same ((hML.same s1).sub fun r hr1 => hp.mem_iff.mp hr1) (srt_of hs ((hp.map (fun r : Row => r.2)).nodup_iff.mpr hnd)) fun z => ?_
        constructor
        · intro hz
          obtain ⟨b, hb⟩ := mem_sets.mp hz
          exact mem_sets.mpr ⟨b, hM _ (hp.mem_iff.mp hb)⟩
        · intro hz
          obtain ⟨b, hb⟩ := mem_sets.mp hz
          have := hc _ hb
          obtain ⟨b', hb'⟩ := mem_sets.mp this
          exact mem_sets.mpr ⟨b', hp.mem_iff.mpr hb'⟩
end
end MS

/-! sets_below, other_points, need_both, least_among. -/
namespace MS
open PySem PySem.Spec PyProof.Rows L2
section
variable {P : Program} {w : World} {K : PySem.W.Frag} {mg : Str → Option Value} {base : Heap}
theorem powL_head : ∀ n, ∃ F, powL n = [] :: F
  | 0 => ⟨[], rfl⟩
  | n + 1 => by
    obtain ⟨F, e⟩ := powL_head n
    exact ⟨F ++ (powL n).map fun s => s ++ [((n : Nat) : Int)], by show powL n ++ _ = _; rw [e]; rfl⟩
theorem okk_pow {L : List Row} {n : Nat} (h : sets L = powL n) : Okk L := by
  obtain ⟨F, e⟩ := powL_head n
  rw [e] at h
  cases L with
  | nil => cases h
  | cons r L' =>
    have e1 : r.2 = [] := (List.cons.inj h).1
    exact .inr ⟨r.1, L', by rw [← e1]⟩
theorem len_pow {L : List Row} {n : Nat} (h : sets L = powL n) : L.length = 2 ^ n := by rw [← sets_length, h, powL_length]
theorem pow_small {n : Nat} (h : n ≤ 5) : 2 ^ n ≤ 32 := Nat.le_trans (Nat.pow_le_pow_right (by decide) h) (by decide)
/-- found + [one + (point,) for one in found]: the comprehension's part -/
theorem grow_lc {H1 : Hp} {l : Addr} {L : List Row} {p : Int} {D : Addr} (hD : H1 D = none) (hl : H1 l = some (.lst (vals L))) (hL : Rws H1 L) (hn : L.length ≤ 1000) {σ : L2.St} {vs : List Nat} {i j : Nat} {Qd : Hp → Prop}
    (hw : ∀ r : V, wipe ((wipe σ vs).set i (some r)) vs = wipe σ vs) (hi : ∀ r : V, ((wipe σ vs).set i (some r))[i]? = some (some r)) (hj : ∀ r : V, ((wipe σ vs).set i (some r))[j]? = some (some (.int p)))
    (hlen : ∀ r ∈ L, r.2.length ≤ 1000)
    (q : ∀ H' M, Same H1 H' → H' D = some (.lst (vals M)) → Rws H' M → sets M = (sets L).map (fun s => s ++ [p]) → Qd H') :
    ∃ W : Nat → Nat → Hp → Prop, (∃ m, W 0 m (upd H1 D (.lst []))) ∧ ∀ k m H, W k m H →
      ((Itl K l).stop k H ∧ Qd H) ∨ ((Itl K l).go k H ∧ ∃ Nx : Hp → Prop, (∀ H', Nx H' → ∃ m', m' < m ∧ W (k + 1) m' H') ∧ ∀ x H', (Itl K l).yld k H x H' → gName i x (wipe σ vs) H' fun σ2 H2 => wipe σ2 vs = wipe σ vs ∧ tYes σ2 H2 fun b H3 =>
        if b = true then tOp (rCatA K) (tVar i) (tTup (tCons (tVar j) tNil)) σ2 H3 fun y H4 => ∃ acc, H4 D = some (.lst acc) ∧ acc.length < sizeLine ∧ Nx (upd H4 D (.lst (acc ++ [y]))) else Nx H3) := by
  refine lc_gen (γ := Row) (walk_list (xs := vals L)) (fun r => .ref r.1) (fun H r => IsR H r.1 r.2) (fun i cs => sets cs = (sets (L.take i)).map fun s => s ++ [p]) hD (by rw [vals_length]; exact hn)
      (fun H' e => SqL.of (e _ _ hl)) (fun H1 H2 c e h => e _ _ h) rfl (fun k x H1' H2 cs Nx hk hS hDl hok hf hy drop keep => ?_) fun H1' cs hS hDl hok hf => ?_
  · obtain ⟨rfl, hx⟩ := hy
    obtain ⟨r, hr1, rfl⟩ := vals_at hx
    have hm := mem_at hr1
    refine ⟨hw _, tyes ⟨_, hi _, _, hj _, by show 1 ≤ sizeLine; decide, fun t nt => ?_⟩⟩
    have s1 : Same H2 (upd H2 t (.tup [.int p])) := same_upd nt
    have hr2 : IsR H2 r.1 r.2 := hL.same hS r hm
    have hnext : ∀ c : Row, c.2 = r.2 ++ [p] → sets (cs ++ [c]) = (sets (L.take (k + 1))).map fun s => s ++ [p] := fun c hc => by
      rw [sets_append, hf, take_at hr1, sets_append, List.map_append]
      show _ ++ [c.2] = _ ++ [r.2 ++ [p]]
      rw [hc]
    refine ⟨r.1, t, r.2.map V.int, [.int p], rfl, rfl, SqT.of (s1 _ _ hr2), SqT.of upd_same, ?_, fun e => ?_, (fun _ e => by cases e), fun _ _ u nu => ?_⟩
    · have := hlen r hm
      rw [List.length_map]
      exact Nat.le_of_lt (Nat.lt_of_le_of_lt (Nat.add_le_add_right this 1) (by show 1001 < sizeLine; decide))
    · have e0 : r.2 = [] := by
        cases e1 : r.2 with
        | nil => rfl
        | cons z zs => rw [e1] at e; cases e
      exact keep (t, [p]) _ s1 upd_same (hnext _ (by rw [e0]; rfl))
    · exact keep (u, r.2 ++ [p]) _ (s1.trans (same_upd nu)) (by show upd _ _ _ _ = _; rw [upd_same, List.map_append]; rfl) (hnext _ rfl)
  · rw [vals_length, List.take_length] at hf
    exact q H1' cs hS hDl hok hf

theorem sc_sets_below : FnScope ["n", "found", "point", "one"] ["n"] (defScope s_sets_below) := ⟨rfl, rfl, rfl, by decide +kernel, rfl, by decide +kernel, by decide +kernel⟩
def sp_sets_below : Sp := fun vs H Q _ => ∃ n : Nat, vs = [.int n] ∧ n ≤ 5 ∧ ∀ H' p us, Same H H' → H' p = some (.tup us) → us.length = 2 ^ n → Q (.ref p) H'
theorem pow_len {n : Nat} {L : List Row} (h : sets L = powL n) : ∀ r ∈ L, r.2.length ≤ n := fun r hr => by
  have g : good n r.2 := mem_powL.mp (by rw [← h]; exact mem_sets.mpr ⟨r.1, hr⟩)
  have := nodup_len (nodup_of_pw (R := fun a b : Int => a < b) (fun a => Int.lt_irrefl a) g.1) (m := pts n) fun x hx => mem_pts.mpr (g.2 x hx)
  rw [pts_length] at this
  exact this
theorem ok_sets_below {f : Addr} {fd : FuncData} (F : Fun K "sets_below" "sets_below" s_sets_below f fd) (B : Blt mg) : FnOk P w K mg base CX0 1 f fd ["n"] sp_sets_below := by
  refine F.ok sc_sets_below (fun vs H Q E h => ?_) (fun cdv A outer s H vs Q E hr h => ?_)
  · obtain ⟨n, rfl, _⟩ := h
    rfl
  · obtain ⟨n, rfl, hn, q⟩ := h
    have nd := sc_sets_below.nd
    refine ⟨_, pss_cons (ps_set (i := 1) nd rfl (.inl rfl) (pe_lst (pa_cons (pe_tup pa_nil) pa_nil)))
      (pss_cons (ps_for PassesOwn.never rfl (pi_range1 (by rfl) B.rng (pa_cons (pv 0) pa_nil)) (pg_name (i := 2) nd rfl (.inr rfl))
        (pss_one (ps_set (i := 1) nd rfl (.inl rfl) (pe_op op_cat (pv 1) (pe_lc (own := [("one", 3)]) (g := gName 3) (tt := tYes) rfl nd (pi_list (pv 1)) (blkOk_by (own := [("one", 3)]) (N := ["n", "found", "point", "one"]) (sc := defScope s_sets_below) (by decide +kernel))
          (fun _ _ _ _ _ => pg_name (i := 3) nd rfl (.inl rfl)) (fun _ _ _ _ _ => pts_nil) (fun _ _ _ _ _ => pe_op (r := rCatA K) op_catA (pv 3) (pe_tup (pa_cons (pv 2) pa_nil))))))))
      (pss_one (ps_ret (pe_callTy call_tuple_of (by rfl) B.tup boot_tuple (pa_cons (pe_callB (cr_sortR (hu3 hr)) (by rfl) B.srt boot_sorted (pa_cons (pv 1) pa_nil)) pa_nil))))), ?_⟩
    refine ⟨Nat.zero_le _, fun t nt => ⟨by show 1 ≤ sizeLine; decide, fun l nl => ?_⟩⟩
    refine ⟨_, rfl, n, rfl, by omega, by omega, for_it walk_range (fun i σ H' => ∃ (l : Addr) (y : Option V) (L : List Row), σ = [some (.int n), some (.ref l), y, none] ∧ Same H H' ∧ H' l = some (.lst (vals L)) ∧ Rws H' L ∧ sets L = powL i) ?_ (fun _ _ _ _ _ => trivial) (fun i x σ H' H2 hi hP hy => ?_) (fun σ H' hP => ?_)⟩
    · refine ⟨l, none, [(t, [])], rfl, (same_upd nt).trans (same_upd nl), upd_same, Rws.one ?_, rfl⟩
      exact same_upd nl _ _ (by rw [upd_same]; rfl)
    · obtain ⟨l, y, L, e1, hS, hl, hL, hp⟩ := hP
      obtain ⟨rfl, rfl⟩ := hy
      subst e1
      have hi5 : i < 5 := by
        have : i < (n : Int).toNat := hi
        omega
      have hlen : L.length ≤ 32 := by rw [len_pow hp]; exact pow_small (by omega)
      refine ⟨_, rfl, .ref l, rfl, l, rfl, ⟨_, SqL.of hl⟩, fun D hD => grow_lc (p := 0 + (i : Int)) hD hl hL (by omega) (fun _ => rfl) (fun _ => rfl) (fun _ => rfl) (fun r hr1 => by have := pow_len hp r hr1; omega) fun H3 M s3 hDl hM hsets => ?_⟩
      refine ⟨l, D, vals L, vals M, rfl, rfl, s3 _ _ hl, hDl, ?_, fun u nu => ?_⟩
      · have hm : M.length = L.length := by rw [← sets_length, hsets, List.length_map, sets_length]
        rw [vals_length, vals_length, hm]
        exact Nat.le_trans (Nat.add_le_add hlen hlen) (by decide)
      · refine ⟨u, _, L ++ M, rfl, hS.trans (s3.trans (same_upd nu)), by rw [upd_same, vals_append], ((hL.same s3).append hM).same (same_upd nu), ?_⟩
        rw [sets_append, hsets, hp, Int.zero_add]
        rfl
    · obtain ⟨l, y, L, e1, hS, hl, hL, hp⟩ := hP
      subst e1
      have hp' : sets L = powL n := by rw [hp]; rfl
      have hlen : L.length ≤ 32 := by rw [len_pow hp']; exact pow_small hn
      refine ⟨_, rfl, l, L, rfl, hl, hL, okk_pow hp', by omega, fun M p hperm hs np => ⟨p, vals M, rfl, .inl ⟨SqL.of upd_same, fun u nu => ?_⟩⟩⟩
      exact q _ u (vals M) ((hS.trans (same_upd np)).trans (same_upd nu)) upd_same (by rw [vals_length, hperm.length_eq, len_pow hp'])

theorem sc_other_points : FnScope ["n", "one", "point"] ["n", "one"] (defScope s_other_points) := ⟨rfl, rfl, rfl, by decide +kernel, rfl, by decide +kernel, by decide +kernel⟩
def sp_other_points : Sp := fun vs H Q _ => ∃ (n : Nat) (a : Addr) (s : S), vs = [.int n, .ref a] ∧ IsR H a s ∧ n ≤ 5 ∧ ∀ H' p, Same H H' → IsR H' p (compl n s) → Q (.ref p) H'
/-- [p for p in range(n) if p not in one]: the reading's loop -/
theorem compl_lc {H1 : Hp} {b : Addr} {z : S} {n : Nat} {D : Addr} (hD : H1 D = none) (hb : IsR H1 b z) (hn : n ≤ 5) {σ : L2.St} {vs : List Nat} {i j : Nat} {Qd : Hp → Prop}
    (hw : ∀ r : V, wipe ((wipe σ vs).set i (some r)) vs = wipe σ vs) (hi : ∀ r : V, ((wipe σ vs).set i (some r))[i]? = some (some r)) (hj : ∀ r : V, ((wipe σ vs).set i (some r))[j]? = some (some (.ref b)))
    (q : ∀ H', Same H1 H' → H' D = some (.lst ((compl n z).map V.int)) → Qd H') :
    ∃ W : Nat → Nat → Hp → Prop, (∃ m, W 0 m (upd H1 D (.lst []))) ∧ ∀ k m H, W k m H →
      ((Itr 0 (n : Int).toNat).stop k H ∧ Qd H) ∨ ((Itr 0 (n : Int).toNat).go k H ∧ ∃ Nx : Hp → Prop, (∀ H', Nx H' → ∃ m', m' < m ∧ W (k + 1) m' H') ∧ ∀ x H', (Itr 0 (n : Int).toNat).yld k H x H' → gName i x (wipe σ vs) H' fun σ2 H2 => wipe σ2 vs = wipe σ vs ∧ tTest (tOp (rIn K true) (tVar i) (tVar j)) σ2 H2 fun b H3 =>
        if b = true then tVar i σ2 H3 fun y H4 => ∃ acc, H4 D = some (.lst acc) ∧ acc.length < sizeLine ∧ Nx (upd H4 D (.lst (acc ++ [y]))) else Nx H3) := by
  have en : (n : Int).toNat = n := Int.toNat_natCast n
  rw [en]
  refine lc_gen (γ := Int) walk_range V.int (fun _ _ => True) (fun k cs => cs = ((pts n).take k).filter fun p => decide (p ∉ z)) hD (by omega) (fun _ _ => trivial) (fun _ _ _ _ h => h) rfl (fun k x H1' H2 cs Nx hk hS hDl hok hf hy drop keep => ?_) fun H1' cs hS hDl hok hf => ?_
  · obtain ⟨rfl, rfl⟩ := hy
    have e0 : (0 : Int) + (k : Int) = (k : Int) := Int.zero_add _
    have hp : (pts n)[k]? = some (0 + (k : Int)) := by rw [e0]; exact pts_get hk
    refine ⟨hw _, _, hi _, _, hj _, b, z.map V.int, rfl, .inr (SqT.of (hS _ _ hb)), rfl, flat_ints z, _, rfl, ?_⟩
    rw [inV_ints, if_pos rfl]
    by_cases h : (0 + (k : Int)) ∈ z
    · rw [decide_eq_true h]
      refine iteF (drop H2 (Same.refl _) ?_)
      rw [take_at hp, List.filter_append, hf, List.filter_cons_of_neg (by simpa using h)]
      simp
    · rw [decide_eq_false h]
      refine iteT ⟨_, hi _, keep (0 + (k : Int)) H2 (Same.refl _) trivial ?_⟩
      rw [take_at hp, List.filter_append, hf, List.filter_cons_of_pos (by simpa using h)]
      rfl
  · have : ((pts n).take n).filter (fun p => decide (p ∉ z)) = compl n z := by
      rw [List.take_of_length_le (by rw [pts_length]; exact Nat.le_refl _)]
      rfl
    rw [this] at hf
    subst hf
    exact q H1' hS hDl
theorem ok_other_points {f : Addr} {fd : FuncData} (F : Fun K "other_points" "other_points" s_other_points f fd) (B : Blt mg) : FnOk P w K mg base CX0 1 f fd ["n", "one"] sp_other_points := by
  refine F.ok sc_other_points (fun vs H Q E h => ?_) (fun cdv A outer s H vs Q E hr h => ?_)
  · obtain ⟨n, a, z, rfl, _⟩ := h
    rfl
  · obtain ⟨n, a, z, rfl, ha, hn, q⟩ := h
    have nd := sc_other_points.nd
    refine ⟨_, pss_one (ps_ret (pe_callTy call_tuple_of (by rfl) B.tup boot_tuple (pa_cons (pe_lc (own := [("point", 2)]) (g := gName 2) rfl nd (pi_range1 (by rfl) B.rng (pa_cons (pv 0) pa_nil)) (blkOk_by (own := [("point", 2)]) (N := ["n", "one", "point"]) (sc := defScope s_other_points) (by decide +kernel))
      (fun _ _ _ _ _ => pg_name (i := 2) nd rfl (.inl rfl)) (fun _ _ _ _ _ => pts_one (pt_cmpR (r := rIn K true) op_notIn_seq (pv 2) (pv 1) (by rfl))) (fun _ _ _ _ _ => pv 2)) pa_nil))), ?_⟩
    refine ⟨_, rfl, n, rfl, by omega, by omega, fun D hD => compl_lc hD ha hn (fun _ => rfl) (fun _ => rfl) (fun _ => rfl) fun H1 hS hDl => ?_⟩
    exact ⟨D, _, rfl, .inl ⟨SqL.of hDl, fun u nu => q _ u (hS.trans (same_upd nu)) upd_same⟩⟩

theorem sc_need_both : FnScope ["n", "family"] ["n", "family"] (defScope s_need_both) := ⟨rfl, rfl, rfl, by decide +kernel, rfl, by decide +kernel, by decide +kernel⟩
def sp_need_both : Sp := fun vs H Q _ => ∃ (n : Nat) (a : Addr) (L : List Row), vs = [.int n, .ref a] ∧ 1 ≤ n ∧ n ≤ 5 ∧ H a = some (.tup (vals L)) ∧ Rws H L ∧ (∀ s ∈ sets L, good n s) ∧ (sets L).Pairwise (· < ·) ∧ ∀ H', Same H H' → Q .non H'
theorem ok_need_both {f : Addr} {fd : FuncData} (F : Fun K "need_both" "need_both" s_need_both f fd) (c1 : Cal P w K mg base 4 "need_ground" ["n"] sp_need_ground) (c2 : Cal P w K mg base 5 "need_family" ["n", "family"] sp_need_family) : FnOk P w K mg base CX0 6 f fd ["n", "family"] sp_need_both := by
  refine F.ok sc_need_both (fun vs H Q E h => ?_) (fun cdv A outer s H vs Q E hr h => ?_)
  · obtain ⟨n, a, L, rfl, _⟩ := h
    rfl
  · obtain ⟨n, a, L, rfl, h1, h2, ha, hL, hg, hs, q⟩ := h
    refine ⟨_, pss_cons (ps_expr (pe_cal c1 hr (pa_cons (pv 0) pa_nil))) (pss_one (ps_expr (pe_cal c2 hr (pa_cons (pv 0) (pa_cons (pv 1) pa_nil))))), ?_⟩
    exact ⟨_, rfl, n, rfl, h1, h2, _, rfl, _, rfl, n, a, L, rfl, ha, hL, hg, hs, q⟩
end
end MS

/-! least_among, first_clash, is_full, need_full, with_opposite, need_two_full, first_least. -/
namespace MS
open PySem PySem.Spec PyProof.Rows L2
section
variable {P : Program} {w : World} {K : PySem.W.Frag} {mg : Str → Option Value} {base : Heap}
/-- [r for r in L if p r] over rows -/
theorem filt_lc {J : It} {G : Hp → Prop} {L : List Row} (W0 : Walk J (vals L).length G (YAt (vals L))) {H1 : Hp} {D : Addr} (hG : ∀ H, Same H1 H → G H) (hD : H1 D = none) (hL : Rws H1 L) (hn : L.length ≤ 1000) (p : S → Bool) {tt : TT} {σ : L2.St} {vs : List Nat} {i : Nat} {Qd : Hp → Prop}
    (hw : ∀ r : V, wipe ((wipe σ vs).set i (some r)) vs = wipe σ vs) (hi : ∀ r : V, ((wipe σ vs).set i (some r))[i]? = some (some r))
    (ht : ∀ r ∈ L, ∀ (H2 : Hp) (Kk : Bool → Hp → Prop), Same H1 H2 → (∀ H3, Same H2 H3 → Kk (p r.2) H3) → tt ((wipe σ vs).set i (some (.ref r.1))) H2 Kk)
    (q : ∀ H', Same H1 H' → H' D = some (.lst (vals (L.filter fun r => p r.2))) → Qd H') :
    ∃ W : Nat → Nat → Hp → Prop, (∃ m, W 0 m (upd H1 D (.lst []))) ∧ ∀ k m H, W k m H →
      (J.stop k H ∧ Qd H) ∨ (J.go k H ∧ ∃ Nx : Hp → Prop, (∀ H', Nx H' → ∃ m', m' < m ∧ W (k + 1) m' H') ∧ ∀ x H', J.yld k H x H' → gName i x (wipe σ vs) H' fun σ2 H2 => wipe σ2 vs = wipe σ vs ∧ tt σ2 H2 fun b H3 =>
        if b = true then tVar i σ2 H3 fun y H4 => ∃ acc, H4 D = some (.lst acc) ∧ acc.length < sizeLine ∧ Nx (upd H4 D (.lst (acc ++ [y]))) else Nx H3) := by
  refine lc_gen (γ := Row) W0 (fun r => .ref r.1) (fun _ _ => True) (fun i cs => cs = (L.take i).filter fun r => p r.2) hD (by rw [vals_length]; exact hn) hG (fun _ _ _ _ h => h) rfl (fun k x H1' H2 cs Nx hk hS hDl hok hf hy drop keep => ?_) fun H1' cs hS hDl hok hf => ?_
  · obtain ⟨rfl, hx⟩ := hy
    obtain ⟨r, hr1, rfl⟩ := vals_at hx
    refine ⟨hw _, ht r (mem_at hr1) _ _ hS fun H3 s3 => ?_⟩
    by_cases h : p r.2 = true
    · rw [h]
      exact iteT ⟨_, hi _, keep r H3 s3 trivial (by rw [take_at hr1, List.filter_append, hf, List.filter_cons_of_pos (p := fun r : Row => p r.2) h]; rfl)⟩
    · have h' : p r.2 = false := Bool.eq_false_iff.mpr h
      rw [h']
      exact iteF (drop H3 s3 (by rw [take_at hr1, List.filter_append, hf, List.filter_cons_of_neg (p := fun r : Row => p r.2) h]; simp))
  · rw [vals_length, List.take_length] at hf
    subst hf
    exact q H1' hS hDl

theorem sc_least_among : FnScope ["family", "one", "other"] ["family"] (defScope s_least_among) := ⟨rfl, rfl, rfl, by decide +kernel, rfl, by decide +kernel, by decide +kernel⟩
def sp_least_among : Sp := fun vs H Q _ => ∃ (a : Addr) (L : List Row), vs = [.ref a] ∧ H a = some (.tup (vals L)) ∧ Rws H L ∧ L.length ≤ 1000 ∧ ∀ H' p, Same H H' → H' p = some (.tup (vals (L.filter fun r => isLeast (sets L) r.2))) → Q (.ref p) H'
theorem rows_one {a : Addr} {s : S} : vals [(a, s)] = [V.ref a] := rfl
theorem ok_least_among {f : Addr} {fd : FuncData} (F : Fun K "least_among" "least_among" s_least_among f fd) (B : Blt mg) (c1 : Cal P w K mg base 1 "lies_in" ["one", "other"] sp_lies_in) : FnOk P w K mg base CX0 2 f fd ["family"] sp_least_among := by
  refine F.ok sc_least_among (fun vs H Q E h => ?_) (fun cdv A outer s H vs Q E hr h => ?_)
  · obtain ⟨a, L, rfl, _⟩ := h
    rfl
  · obtain ⟨a, L, rfl, ha, hL, hn, q⟩ := h
    have nd := sc_least_among.nd
    refine ⟨_, pss_one (ps_ret (pe_callTy call_tuple_of (by rfl) B.tup boot_tuple (pa_cons (pe_lc (own := [("one", 1)]) (g := gName 1) rfl nd (pi_tup (pv 0)) (blkOk_by (own := [("one", 1)]) (N := ["family", "one", "other"]) (sc := defScope s_least_among) (by decide +kernel))
      (fun _ _ _ _ _ => pg_name (i := 1) nd rfl (.inr rfl))
      (fun _ _ _ _ _ => pts_one (pt_cmpR (r := rEqF false) (op_eqF (hu64 hr)) (pe_lc (own := [("other", 2)]) (g := gName 2) (wi := iTup K (tVar 0)) rfl nd (pi_tup (pv 0)) (blkOk_by (own := [("other", 2)]) (N := ["family", "one", "other"]) (sc := { kind := .function, names := [(".0", .local), ("one", .cell), ("family", .cell)], isGenerator := false, isCoroutine := false }) (by decide +kernel))
        (fun _ _ _ _ _ => pg_name (i := 2) nd rfl (.inl rfl)) (fun _ _ _ _ _ => pts_one (pt_val (pe_cal c1 hr (pa_cons (pv 2) (pa_cons (pv 1) pa_nil))))) (fun _ _ _ _ _ => pv 2)) (pe_lst (pa_cons (pv 1) pa_nil)) (by rfl)))
      (fun _ _ _ _ _ => pv 1)) pa_nil))), ?_⟩
    refine ⟨.ref a, rfl, a, rfl, ⟨_, SqT.of ha⟩, fun D hD => filt_lc (walk_tup (xs := vals L)) (fun H' e => SqT.of (e _ _ ha)) hD hL hn (isLeast (sets L)) (fun _ => rfl) (fun _ => rfl) (fun r hr1 H2 Kk s2 kk => ?_) fun H' hS hDl => ?_⟩
    · refine ⟨.ref a, rfl, a, rfl, ⟨_, SqT.of (s2 _ _ ha)⟩, fun D2 hD2 => filt_lc (walk_tup (xs := vals L)) (fun H' e => SqT.of (e _ _ (s2 _ _ ha))) hD2 (hL.same s2) hn (fun t => subB t r.2) (fun _ => rfl) (fun _ => rfl) (fun u hu1 H4 K2 s4 k4 => ?_) fun H4 s4 hD4 => ?_⟩
      · exact ⟨_, rfl, _, rfl, u.1, r.1, u.2, r.2, rfl, s4 _ _ (s2 _ _ (hL u hu1)), s4 _ _ (s2 _ _ (hL r hr1)), _, rfl, k4 H4 (Same.refl _)⟩
      · refine ⟨_, rfl, by show 1 ≤ sizeLine; decide, fun c nc => ?_⟩
        have s5 := same_upd (o := .lst [V.ref r.1]) nc
        have hLf : Rws (upd H4 c (.lst [V.ref r.1])) L := (hL.same s2).same (s4.trans s5)
        refine ⟨D2, c, L.filter fun t => subB t.2 r.2, [(r.1, r.2)], rfl, rfl, .inl ⟨s5 _ _ hD4, upd_same⟩, hLf.sub fun t ht => (List.mem_filter.mp ht).1, Rws.one (hLf r hr1), _, rfl, ?_⟩
        have e : decide (sets (L.filter fun t => subB t.2 r.2) = sets [(r.1, r.2)]) = isLeast (sets L) r.2 := by
          unfold isLeast
          rw [sets_filter L fun t => subB t r.2]
          rfl
        rw [if_neg (by decide), e]
        exact kk _ (s4.trans s5)
    · exact ⟨D, _, rfl, .inl ⟨SqL.of hDl, fun u nu => q _ u (hS.trans (same_upd nu)) upd_same⟩⟩

theorem sc_first_clash : FnScope ["family", "at", "one", "other"] ["family"] (defScope s_first_clash) := ⟨rfl, rfl, rfl, by decide +kernel, rfl, by decide +kernel, by decide +kernel⟩
def sp_first_clash : Sp := fun vs H Q _ => ∃ (a : Addr) (L : List Row), vs = [.ref a] ∧ H a = some (.tup (vals L)) ∧ Rws H L ∧ (∀ r ∈ L, ∀ t ∈ L, meetB r.2 t.2 = true) ∧ ∀ H', Same H H' → Q .non H'
theorem cut_rows (L : List Row) (i : Nat) : ∃ M : List Row, cutV (vals L) (some (i : Int)) none = vals M ∧ ∀ r ∈ M, r ∈ L := by
  refine ⟨(L.drop (HT.sIx (vals L).length 0 (some (i : Int)))).take (HT.sIx (vals L).length (vals L).length none - HT.sIx (vals L).length 0 (some (i : Int))), ?_, fun r hr => List.mem_of_mem_drop (List.mem_of_mem_take hr)⟩
  unfold cutV
  generalize HT.sIx (vals L).length 0 (some (i : Int)) = x
  generalize HT.sIx (vals L).length (vals L).length none = y
  unfold vals
  rw [List.map_take, List.map_drop]
theorem sl_rows {H : Hp} {a : Addr} {L : List Row} {i : Nat} {Q : VK} (ha : H a = some (.tup (vals L))) (q : ∀ H3 p M, Same H H3 → H3 p = some (.tup (vals M)) → (∀ t ∈ M, t ∈ L) → Q (.ref p) H3) : rSlA K (.ref a) (some (i : Int)) none H Q := by
  refine ⟨a, vals L, rfl, SqT.of ha, fun _ => q H a L (Same.refl _) ha fun t ht => ht, fun _ u nu => ?_⟩
  obtain ⟨M, eM, hM⟩ := cut_rows L i
  exact q _ u M (same_upd nu) (by rw [upd_same, eM]) hM
theorem ok_first_clash {f : Addr} {fd : FuncData} (F : Fun K "first_clash" "first_clash" s_first_clash f fd) (B : Blt mg) (c1 : Cal P w K mg base 1 "share_point" ["one", "other"] sp_share_point) : FnOk P w K mg base CX0 2 f fd ["family"] sp_first_clash := by
  refine F.ok sc_first_clash (fun vs H Q E h => ?_) (fun cdv A outer s H vs Q E hr h => ?_)
  · obtain ⟨a, L, rfl, _⟩ := h
    rfl
  · obtain ⟨a, L, rfl, ha, hL, hm, q⟩ := h
    have nd := sc_first_clash.nd
    refine ⟨_, pss_cons (ps_for PassesOwn.never rfl (pi_enumT (by rfl) B.enu (pa_cons (pv 0) pa_nil)) (pg_tup rfl (pgs_cons (pg_name (i := 1) nd rfl (.inl rfl)) (pgs_cons (pg_name (i := 2) nd rfl (.inl rfl)) pgs_nil)))
        (pss_one (ps_for PassesOwn.never rfl (pi_tup (pe_slice sl_tupA (pv 0) (po_some (pv 1)) po_none)) (pg_name (i := 3) nd rfl (.inl rfl))
          (pss_one (ps_if (pt_not (pt_val (pe_cal c1 hr (pa_cons (pv 2) (pa_cons (pv 3) pa_nil))))) pss_never pss_nil)))))
      (pss_one (ps_ret pe_non)), ?_⟩
    refine ⟨.ref a, rfl, a, vals L, rfl, SqT.of ha, for_it (walk_enumT (xs := vals L)) (fun i σ H' => ∃ (y1 y2 y3 : Option V), σ = [some (.ref a), y1, y2, y3] ∧ Same H H') ⟨none, none, none, rfl, Same.refl H⟩ (fun i σ H' _ ⟨_, _, _, _, e⟩ => SqT.of (e _ _ ha))
      (fun i x σ H' H2 hi ⟨y1, y2, y3, e1, e2⟩ hy => ?_) (fun σ H' ⟨_, _, _, _, e⟩ => q H' e)⟩
    obtain ⟨T, x1, x2, e3, nT, e4, f1, f2⟩ := hy
    have k1 : V.int (i : Nat) = x1 := Option.some.inj f1
    subst e1 e3 e4 k1
    obtain ⟨r, hr1, rfl⟩ := vals_at f2
    have s2 : Same H (upd H' T (.tup [.int (i : Nat), V.ref r.1])) := e2.trans (same_upd nT)
    refine ⟨T, [.int (i : Nat), .ref r.1], rfl, SqT.of upd_same, rfl, .int (i : Nat), [.ref r.1], rfl, .ref r.1, [], rfl, rfl, ?_⟩
    have hmr := mem_at hr1
    refine ⟨.ref a, rfl, _, rfl, (i : Int), rfl, ?_⟩
    dsimp only [tNoPart]
    refine sl_rows (s2 _ _ ha) fun H3 p M s3 hp hM => ⟨p, rfl, ⟨_, SqT.of hp⟩, ?_⟩
    refine for_it (walk_tup (xs := vals M)) (g := gName 3) (tb := tIfS (tNot (tB (tCall sp_share_point [] E0 (tCons (tVar 2) (tCons (tVar 3) tNil))))) tNever tNext) (D := { nx := fun σ H' => ∃ y1 y2 y3 : Option V, σ = [some (V.ref a), y1, y2, y3] ∧ Same H H', rt := Q }) (fun j σ H4 => ∃ y3 : Option V, σ = [some (.ref a), some (.int (i : Nat)), some (.ref r.1), y3] ∧ Same H3 H4) ⟨y3, rfl, Same.refl _⟩ (fun j σ H4 _ ⟨_, _, e⟩ => SqT.of (e _ _ hp)) (fun j x σ H4 H5 hj hP hy => ?_) (fun σ H4 hP => ?_)
    rotate_left
    · obtain ⟨y, e5, e6⟩ := hP
      exact ⟨_, _, _, e5, s2.trans (s3.trans e6)⟩
    obtain ⟨y, e5, e6⟩ := hP
    obtain ⟨e7, hx⟩ := hy
    subst e5 e7
    obtain ⟨t, ht1, rfl⟩ := vals_at hx
    have htL := hM t (mem_at ht1)
    exact ⟨_, rfl, _, rfl, r.1, t.1, r.2, t.2, rfl, e6 _ _ (s3 _ _ (s2 _ _ (hL r hmr))), e6 _ _ (s3 _ _ (s2 _ _ (hL t htL))), true, by rw [hm r hmr t htL], iteF ⟨_, rfl, e6⟩⟩
end
end MS

/-! is_full, need_full, with_opposite, need_two_full, first_least. -/
namespace MS
open PySem PySem.Spec PyProof.Rows L2
section
variable {P : Program} {w : World} {K : PySem.W.Frag} {mg : Str → Option Value} {base : Heap}
/-- a full family of rows at a -/
structure FamR (n : Nat) (H : Hp) (a : Addr) (L : List Row) : Prop where
  lo : 1 ≤ n
  hi : n ≤ 5
  at_ : H a = some (.tup (vals L))
  rws : Rws H L
  full : Full n (sets L)
theorem FamR.same {n : Nat} {H H' : Hp} {a : Addr} {L : List Row} (h : FamR n H a L) (e : Same H H') : FamR n H' a L := ⟨h.lo, h.hi, e _ _ h.at_, h.rws.same e, h.full⟩
theorem FamR.len {n : Nat} {H : Hp} {a : Addr} {L : List Row} (h : FamR n H a L) : L.length ≤ 16 := by
  have := h.full.card
  rw [sets_length] at this
  have := pow_small h.hi
  omega
theorem sc_is_full : FnScope ["n", "family"] ["n", "family"] (defScope s_is_full) := ⟨rfl, rfl, rfl, by decide +kernel, rfl, by decide +kernel, by decide +kernel⟩
def sp_is_full : Sp := fun vs H Q _ => ∃ (n : Nat) (a : Addr) (L : List Row), vs = [.int n, .ref a] ∧ FamR n H a L ∧ ∀ H', Same H H' → Q (.bl true) H'
theorem ok_is_full {f : Addr} {fd : FuncData} (F : Fun K "is_full" "is_full" s_is_full f fd) (B : Blt mg) (c1 : Cal P w K mg base 1 "sets_below" ["n"] sp_sets_below) (c2 : Cal P w K mg base 2 "first_clash" ["family"] sp_first_clash) : FnOk P w K mg base CX0 3 f fd ["n", "family"] sp_is_full := by
  refine F.ok sc_is_full (fun vs H Q E h => ?_) (fun cdv A outer s H vs Q E hr h => ?_)
  · obtain ⟨n, a, L, rfl, _⟩ := h
    rfl
  · obtain ⟨n, a, L, rfl, hF, q⟩ := h
    refine ⟨_, pss_one (ps_ret (pe_and (pe_cmpR op_eq (pe_op op_mul pe_int (pe_callB call_len_seq (by rfl) B.len PySem.boot_len (pa_cons (pv 1) pa_nil))) (pe_callB call_len_seq (by rfl) B.len PySem.boot_len (pa_cons (pe_cal c1 hr (pa_cons (pv 0) pa_nil)) pa_nil)) (by rfl))
      (pe_one (pe_cmp (pc_isN (pe_cal c2 hr (pa_cons (pv 1) pa_nil))) rfl)))), ?_⟩
    refine ⟨_, rfl, a, vals L, rfl, .inr (SqT.of hF.at_), 2, _, rfl, rfl, .inl ⟨by decide, by decide⟩, _, rfl, n, rfl, hF.hi, fun H1 p us s1 hp hus => ⟨p, us, rfl, .inr (SqT.of hp), rfl, true, ?_, iteT ?_⟩⟩
    · refine congrArg V.bl (decide_eq_true ?_)
      have := hF.full.card
      rw [sets_length] at this
      show V.int (2 * ((vals L).length : Int)) = V.int (us.length : Int)
      rw [vals_length, hus, ← this]
      exact congrArg V.int (by omega)
    · refine ⟨_, rfl, a, L, rfl, s1 _ _ hF.at_, hF.rws.same s1, fun r hr1 t ht => hF.full.meet _ (mem_sets.mpr ⟨r.1, hr1⟩) _ (mem_sets.mpr ⟨t.1, ht⟩), fun H2 s2 => ?_⟩
      exact q H2 (s1.trans s2)

theorem sc_need_full : FnScope ["n", "family"] ["n", "family"] (defScope s_need_full) := ⟨rfl, rfl, rfl, by decide +kernel, rfl, by decide +kernel, by decide +kernel⟩
def sp_need_full : Sp := fun vs H Q _ => ∃ (n : Nat) (a : Addr) (L : List Row), vs = [.int n, .ref a] ∧ FamR n H a L ∧ ∀ H', Same H H' → Q .non H'
theorem ok_need_full {f : Addr} {fd : FuncData} (F : Fun K "need_full" "need_full" s_need_full f fd) (c1 : Cal P w K mg base 3 "is_full" ["n", "family"] sp_is_full) : FnOk P w K mg base CX0 4 f fd ["n", "family"] sp_need_full := by
  refine F.ok sc_need_full (fun vs H Q E h => ?_) (fun cdv A outer s H vs Q E hr h => ?_)
  · obtain ⟨n, a, L, rfl, _⟩ := h
    rfl
  · obtain ⟨n, a, L, rfl, hF, q⟩ := h
    refine ⟨_, pss_one (ps_if (pt_not (pt_val (pe_cal c1 hr (pa_cons (pv 0) (pa_cons (pv 1) pa_nil))))) pss_never pss_nil), ?_⟩
    exact ⟨_, rfl, _, rfl, n, a, L, rfl, hF, fun H' e => ⟨true, rfl, iteF (q H' e)⟩⟩

theorem sc_with_opposite : FnScope ["n", "family", "one", "other"] ["n", "family", "one"] (defScope s_with_opposite) := ⟨rfl, rfl, rfl, by decide +kernel, rfl, by decide +kernel, by decide +kernel⟩
def sp_with_opposite : Sp := fun vs H Q _ => ∃ (n : Nat) (a b : Addr) (L : List Row) (s : S), vs = [.int n, .ref a, .ref b] ∧ n ≤ 5 ∧ H a = some (.tup (vals L)) ∧ Rws H L ∧ IsR H b s ∧ L.length ≤ 500 ∧ (∀ r ∈ L, r.2 ≠ []) ∧ compl n s ≠ [] ∧
  ∀ H' p M, Same H H' → H' p = some (.tup (vals M)) → Rws H' M → (sets M).Pairwise (· < ·) → (∀ t, t ∈ sets M ↔ t ∈ (sets L).filter (fun t => decide (t ≠ s)) ++ [compl n s]) → Q (.ref p) H'
theorem ok_with_opposite {f : Addr} {fd : FuncData} (F : Fun K "with_opposite" "with_opposite" s_with_opposite f fd) (c1 : Cal P w K mg base 1 "in_order" ["sets"] sp_in_order) (c2 : Cal P w K mg base 1 "other_points" ["n", "one"] sp_other_points) : FnOk P w K mg base CX0 2 f fd ["n", "family", "one"] sp_with_opposite := by
  refine F.ok sc_with_opposite (fun vs H Q E h => ?_) (fun cdv A outer s H vs Q E hr h => ?_)
  · obtain ⟨n, a, b, L, z, rfl, _⟩ := h
    rfl
  · obtain ⟨n, a, b, L, z, rfl, hn, ha, hL, hb, hlen, hne, hc, q⟩ := h
    have nd := sc_with_opposite.nd
    refine ⟨_, pss_one (ps_ret (pe_cal c1 hr (pa_cons (pe_op op_cat (pe_lc (own := [("other", 3)]) (g := gName 3) rfl nd (pi_tup (pv 1)) (blkOk_by (own := [("other", 3)]) (N := ["n", "family", "one", "other"]) (sc := defScope s_with_opposite) (by decide +kernel))
      (fun _ _ _ _ _ => pg_name (i := 3) nd rfl (.inl rfl)) (fun _ _ _ _ _ => pts_one (pt_cmpR (r := rEqR true) (op_neR (hu64 hr)) (pv 3) (pv 2) (by rfl))) (fun _ _ _ _ _ => pv 3))
      (pe_lst (pa_cons (pe_cal c2 hr (pa_cons (pv 0) (pa_cons (pv 2) pa_nil))) pa_nil))) pa_nil))), ?_⟩
    refine ⟨.ref a, rfl, a, rfl, ⟨_, SqT.of ha⟩, fun D hD => filt_lc (walk_tup (xs := vals L)) (fun H' e => SqT.of (e _ _ ha)) hD hL (by omega) (fun t => decide (t ≠ z)) (fun _ => rfl) (fun _ => rfl) (fun r hr1 H2 Kk s2 kk => ?_) fun H1 s1 hDl => ?_⟩
    · refine ⟨_, rfl, _, rfl, r.1, b, r.2, z, rfl, s2 _ _ (hL r hr1), rfl, s2 _ _ hb, _, rfl, ?_⟩
      have e : (!decide (r.2 = z)) = decide (r.2 ≠ z) := by
        by_cases h : r.2 = z <;> simp [h]
      rw [if_pos rfl, e]
      exact kk H2 (Same.refl _)
    · refine ⟨_, rfl, _, rfl, n, b, z, rfl, s1 _ _ hb, hn, fun H2 p s2 hp => ⟨by show 1 ≤ sizeLine; decide, fun c nc => ?_⟩⟩
      have s3 := same_upd (o := .lst [V.ref p]) nc
      refine ⟨D, c, vals (L.filter fun r => decide (r.2 ≠ z)), [.ref p], rfl, rfl, s3 _ _ (s2 _ _ hDl), upd_same, ?_, fun d nd2 => ?_⟩
      · have := List.length_filter_le (fun r : Row => decide (r.2 ≠ z)) L
        rw [vals_length]
        show _ + 1 ≤ sizeLine
        exact Nat.le_of_lt (small1000 (by omega))
      · have s4 := same_upd (o := .lst (vals (L.filter fun r => decide (r.2 ≠ z)) ++ [V.ref p])) nd2
        have st := s1.trans (s2.trans (s3.trans s4))
        have hR : Rws (upd (upd H2 c (.lst [V.ref p])) d (.lst (vals (L.filter fun r => decide (r.2 ≠ z)) ++ [V.ref p]))) ((L.filter fun r => decide (r.2 ≠ z)) ++ [(p, compl n z)]) :=
          ((hL.same st).sub fun r hr1 => (List.mem_filter.mp hr1).1).append (Rws.one (s4 _ _ (s3 _ _ hp)))
        refine ⟨d, _, rfl, by rw [upd_same, vals_append]; rfl, hR, fun r hr1 => ?_, ?_, fun H5 u M s5 hu hM hs hmem => ?_⟩
        · rcases List.mem_append.mp hr1 with h | h
          · exact hne r (List.mem_filter.mp h).1
          · rw [List.mem_singleton.mp h]
            exact hc
        · rw [List.length_append]
          have := List.length_filter_le (fun r : Row => decide (r.2 ≠ z)) L
          show _ + 1 ≤ 1000
          omega
        · refine q H5 u M (st.trans s5) hu hM hs fun t => ?_
          rw [hmem t, sets_append, sets_filter L fun t => decide (t ≠ z)]
          rfl

theorem sc_need_two_full : FnScope ["n", "family", "other"] ["n", "family", "other"] (defScope s_need_two_full) := ⟨rfl, rfl, rfl, by decide +kernel, rfl, by decide +kernel, by decide +kernel⟩
def sp_need_two_full : Sp := fun vs H Q _ => ∃ (n : Nat) (a b : Addr) (L M : List Row), vs = [.int n, .ref a, .ref b] ∧ FamR n H a L ∧ FamR n H b M ∧ ∀ H', Same H H' → Q .non H'
theorem ok_need_two_full {f : Addr} {fd : FuncData} (F : Fun K "need_two_full" "need_two_full" s_need_two_full f fd) (c1 : Cal P w K mg base 6 "need_both" ["n", "family"] sp_need_both) (c2 : Cal P w K mg base 5 "need_family" ["n", "family"] sp_need_family)
    (c3 : Cal P w K mg base 4 "need_full" ["n", "family"] sp_need_full) : FnOk P w K mg base CX0 7 f fd ["n", "family", "other"] sp_need_two_full := by
  refine F.ok sc_need_two_full (fun vs H Q E h => ?_) (fun cdv A outer s H vs Q E hr h => ?_)
  · obtain ⟨n, a, b, L, M, rfl, _⟩ := h
    rfl
  · obtain ⟨n, a, b, L, M, rfl, hF, hG, q⟩ := h
    refine ⟨_, pss_cons (ps_expr (pe_cal c1 hr (pa_cons (pv 0) (pa_cons (pv 1) pa_nil)))) (pss_cons (ps_expr (pe_cal c2 hr (pa_cons (pv 0) (pa_cons (pv 2) pa_nil)))) (pss_cons (ps_expr (pe_cal c3 hr (pa_cons (pv 0) (pa_cons (pv 1) pa_nil))))
      (pss_one (ps_expr (pe_cal c3 hr (pa_cons (pv 0) (pa_cons (pv 2) pa_nil))))))), ?_⟩
    refine ⟨_, rfl, _, rfl, n, a, L, rfl, hF.lo, hF.hi, hF.at_, hF.rws, hF.full.good, hF.full.srt, fun H1 s1 => ?_⟩
    have hG1 := hG.same s1
    refine ⟨_, rfl, _, rfl, n, b, M, rfl, hG1.at_, hG1.rws, hG1.full.good, hG1.full.srt, fun H2 s2 => ?_⟩
    refine ⟨_, rfl, _, rfl, n, a, L, rfl, (hF.same s1).same s2, fun H3 s3 => ?_⟩
    exact ⟨_, rfl, _, rfl, n, b, M, rfl, (hG1.same s2).same s3, fun H4 s4 => q H4 (s1.trans (s2.trans (s3.trans s4)))⟩

theorem sc_first_least : FnScope ["sets", "one", "other"] ["sets"] (defScope s_first_least) := ⟨rfl, rfl, rfl, by decide +kernel, rfl, by decide +kernel, by decide +kernel⟩
def sp_first_least : Sp := fun vs H Q _ => ∃ (a : Addr) (L : List Row) (o : S), vs = [.ref a] ∧ H a = some (.lst (vals L)) ∧ Rws H L ∧ L.length ≤ 1000 ∧ (sets L).find? (isLeast (sets L)) = some o ∧ ∀ H' r, Same H H' → r ∈ L → r.2 = o → Q (.ref r.1) H'
theorem ok_first_least {f : Addr} {fd : FuncData} (F : Fun K "first_least" "first_least" s_first_least f fd) (c1 : Cal P w K mg base 1 "lies_in" ["one", "other"] sp_lies_in) : FnOk P w K mg base CX0 2 f fd ["sets"] sp_first_least := by
  refine F.ok sc_first_least (fun vs H Q E h => ?_) (fun cdv A outer s H vs Q E hr h => ?_)
  · obtain ⟨a, L, o, rfl, _⟩ := h
    rfl
  · obtain ⟨a, L, o, rfl, ha, hL, hn, ho, q⟩ := h
    have nd := sc_first_least.nd
    refine ⟨_, pss_cons (ps_for PassesOwn.never rfl (pi_list (pv 0)) (pg_name (i := 1) nd rfl (.inr rfl))
      (pss_one (ps_if (pt_cmpR (r := rEqF false) (op_eqF (hu64 hr)) (pe_lc (own := [("other", 2)]) (g := gName 2) rfl nd (pi_list (pv 0)) (blkOk_by (own := [("other", 2)]) (N := ["sets", "one", "other"]) (sc := defScope s_first_least) (by decide +kernel))
        (fun _ _ _ _ _ => pg_name (i := 2) nd rfl (.inl rfl)) (fun _ _ _ _ _ => pts_one (pt_val (pe_cal c1 hr (pa_cons (pv 2) (pa_cons (pv 1) pa_nil))))) (fun _ _ _ _ _ => pv 2)) (pe_lst (pa_cons (pv 1) pa_nil)) (by rfl))
        (pss_one (ps_ret (pv 1))) pss_nil))) (pss_one (ps_ret (pe_tup pa_nil))), ?_⟩
    refine ⟨.ref a, rfl, a, rfl, ⟨_, SqL.of ha⟩, for_it (walk_list (xs := vals L)) (fun i σ H' => ∃ y : Option V, σ = [some (.ref a), y, none] ∧ Same H H' ∧ ∀ t ∈ sets (L.take i), isLeast (sets L) t = false) ⟨none, rfl, Same.refl _, fun t ht => by cases ht⟩ (fun i σ H' _ ⟨_, _, e, _⟩ => SqL.of (e _ _ ha))
      (fun i x σ H' H2 hi hP hy => ?_) (fun σ H' hP => ?_)⟩
    · obtain ⟨y, e1, e2, e3⟩ := hP
      obtain ⟨rfl, hx⟩ := hy
      subst e1
      obtain ⟨r, hr1, rfl⟩ := vals_at hx
      have hm := mem_at hr1
      refine ⟨.ref a, rfl, a, rfl, ⟨_, SqL.of (e2 _ _ ha)⟩, fun D2 hD2 => filt_lc (walk_list (xs := vals L)) (fun H' e => SqL.of (e _ _ (e2 _ _ ha))) hD2 (hL.same e2) hn (fun t => subB t r.2) (fun _ => rfl) (fun _ => rfl) (fun u hu1 H4 K2 s4 k4 => ?_) fun H4 s4 hD4 => ?_⟩
      · exact ⟨_, rfl, _, rfl, u.1, r.1, u.2, r.2, rfl, s4 _ _ (e2 _ _ (hL u hu1)), s4 _ _ (e2 _ _ (hL r hm)), _, rfl, k4 H4 (Same.refl _)⟩
      · refine ⟨_, rfl, by show 1 ≤ sizeLine; decide, fun c nc => ?_⟩
        have s5 := same_upd (o := .lst [V.ref r.1]) nc
        have hLf : Rws (upd H4 c (.lst [V.ref r.1])) L := (hL.same e2).same (s4.trans s5)
        refine ⟨D2, c, L.filter fun t => subB t.2 r.2, [(r.1, r.2)], rfl, rfl, .inl ⟨s5 _ _ hD4, upd_same⟩, hLf.sub fun t ht => (List.mem_filter.mp ht).1, Rws.one (hLf r hm), _, rfl, ?_⟩
        have e : decide (sets (L.filter fun t => subB t.2 r.2) = sets [(r.1, r.2)]) = isLeast (sets L) r.2 := by
          unfold isLeast
          rw [sets_filter L fun t => subB t r.2]
          rfl
        rw [if_neg (by decide), e]
        by_cases h : isLeast (sets L) r.2 = true
        · rw [h]
          refine iteT ⟨_, rfl, q _ r (e2.trans (s4.trans s5)) hm ?_⟩
          have hsp : sets L = sets (L.take i) ++ r.2 :: sets (L.drop (i + 1)) := by
            have hlt := (List.getElem?_eq_some_iff.mp hr1).1
            have e6 : L = L.take i ++ r :: L.drop (i + 1) := by
              have e7 : L.drop i = r :: L.drop (i + 1) := by
                rw [List.drop_eq_getElem_cons hlt]
                rw [(List.getElem?_eq_some_iff.mp hr1).2]
              rw [← e7, List.take_append_drop]
            have e8 := congrArg sets e6
            rw [sets_append] at e8
            exact e8
          generalize isLeast (sets L) = pL at h ho e3
          rw [hsp, List.find?_append, List.find?_eq_none.mpr (fun t ht => by rw [e3 t ht]; decide), Option.none_or, List.find?_cons_of_pos h] at ho
          exact Option.some.inj ho
        · have h' : isLeast (sets L) r.2 = false := Bool.eq_false_iff.mpr h
          rw [h']
          refine iteF ⟨_, rfl, e2.trans (s4.trans s5), fun t ht => ?_⟩
          rw [take_at hr1, sets_append] at ht
          rcases List.mem_append.mp ht with z | z
          · exact e3 t z
          · rw [List.mem_singleton.mp z]
            exact h'
    · obtain ⟨y, e1, e2, e3⟩ := hP
      rw [vals_length, List.take_length] at e3
      have h1 := List.mem_of_find?_eq_some ho
      have h2 := List.find?_some ho
      rw [e3 o h1] at h2
      cases h2
end
end MS

/-! swaps_to, swaps_hold. -/
namespace MS
open PySem PySem.Spec PyProof.Rows L2
section
variable {P : Program} {w : World} {K : PySem.W.Frag} {mg : Str → Option Value} {base : Heap}
theorem swapsL_cons {L : List S} (h : L ≠ []) {k : Nat} (hk : L.length = k + 1) : swapsL L.length L = firstLeast L :: swapsL k (L.erase (firstLeast L)) := by
  rw [hk]
  show (if L = [] then [] else firstLeast L :: swapsL k (L.erase (firstLeast L))) = _
  rw [if_neg h]
theorem sc_swaps_to : FnScope ["n", "family", "other", "one", "left", "found"] ["n", "family", "other"] (defScope s_swaps_to) := ⟨rfl, rfl, rfl, by decide +kernel, rfl, by decide +kernel, by decide +kernel⟩
def sp_swaps_to : Sp := fun vs H Q _ => ∃ (n : Nat) (a b : Addr) (L M : List Row), vs = [.int n, .ref a, .ref b] ∧ FamR n H a L ∧ FamR n H b M ∧ ∀ H' p Z, Same H H' → H p = none → H' p = some (.lst (vals Z)) → Rws H' Z → sets Z = steps (sets L) (sets M) → Q (.ref p) H'
theorem ok_swaps_to {f : Addr} {fd : FuncData} (F : Fun K "swaps_to" "swaps_to" s_swaps_to f fd) (B : Blt mg) (c1 : Cal P w K mg base 7 "need_two_full" ["n", "family", "other"] sp_need_two_full) (c2 : Cal P w K mg base 2 "first_least" ["sets"] sp_first_least) : FnOk P w K mg base CX0 8 f fd ["n", "family", "other"] sp_swaps_to := by
  refine F.ok sc_swaps_to (fun vs H Q E h => ?_) (fun cdv A outer s H vs Q E hr h => ?_)
  · obtain ⟨n, a, b, L, M, rfl, _⟩ := h
    rfl
  · obtain ⟨n, a, b, L, M, rfl, hF, hG, q⟩ := h
    have nd := sc_swaps_to.nd
    refine ⟨_, pss_cons (ps_expr (pe_cal c1 hr (pa_cons (pv 0) (pa_cons (pv 1) (pa_cons (pv 2) pa_nil)))))
      (pss_cons (ps_setLc (i := 4) (own := [("one", 3)]) (g := gName 3) rfl nd rfl rfl (sw_true rfl rfl rfl (by decide +kernel)) (pi_tup (pv 1)) (blkOk_by (own := [("one", 3)]) (N := ["n", "family", "other", "one", "left", "found"]) (sc := defScope s_swaps_to) (by decide +kernel))
        (fun _ _ _ _ _ => pg_name (i := 3) nd rfl (.inl rfl)) (fun _ _ _ _ _ => pts_one (pt_cmpR (r := rInR true) (op_notInR (hu65 hr)) (pv 3) (pv 2) (by rfl))) (fun _ _ _ _ _ => pv 3))
      (pss_cons (ps_set (i := 5) nd rfl (.inl rfl) (pe_lst pa_nil))
      (pss_cons (ps_while PassesOwn.never (pt_cmpR op_gt (pe_callB call_len_seq (by rfl) B.len PySem.boot_len (pa_cons (pv 4) pa_nil)) pe_int (nomark _))
        (pss_cons (ps_set (i := 3) nd rfl (.inl rfl) (pe_cal c2 hr (pa_cons (pv 4) pa_nil)))
        (pss_cons (ps_expr (pe_bm PySem.F.plainAttrs_list PySem.F.slot_list_remove PySem.F.type_list_remove (mt_removeR (hu65 hr)) (pv 4) (pa_cons (pv 3) pa_nil)))
        (pss_one (ps_expr (pe_bm PySem.F.plainAttrs_list PySem.F.slot_list_append PySem.F.type_list_append mt_append (pv 5) (pa_cons (pv 3) pa_nil)))))))
      (pss_one (ps_ret (pv 5)))))), ?_⟩
    refine ⟨_, rfl, _, rfl, _, rfl, n, a, b, L, M, rfl, hF, hG, fun H1 s1 => ?_⟩
    refine ⟨.ref a, rfl, a, rfl, ⟨_, SqT.of (s1 _ _ hF.at_)⟩, fun D hD => filt_lc (walk_tup (xs := vals L)) (fun H' e => SqT.of (e _ _ (s1 _ _ hF.at_))) hD (hF.rws.same s1) (by have := hF.len; omega) (fun t => decide (t ∉ sets M)) (fun _ => rfl) (fun _ => rfl) (fun r hr1 H2 Kk s2 kk => ?_) fun H2 s2 hDl => ?_⟩
    · have hG2 := (hG.same s1).same s2
      refine ⟨_, rfl, _, rfl, r.1, b, r.2, M, rfl, s2 _ _ (s1 _ _ (hF.rws r hr1)), rfl, .inr hG2.at_, hG2.rws, _, rfl, ?_⟩
      have e : (!decide (r.2 ∈ sets M)) = decide (r.2 ∉ sets M) := by
        by_cases h : r.2 ∈ sets M <;> simp [h]
      rw [if_pos rfl, e]
      exact kk H2 (Same.refl _)
    · refine ⟨Nat.zero_le _, fun fo nfo => ?_⟩
      have hDn : H D = none := s1.free hD
      have hfn : H fo = none := (s1.trans s2).free nfo
      have hne : D ≠ fo := ne_of_none hDl nfo
      have eL : sets (L.filter fun r => decide (r.2 ∉ sets M)) = lacks (sets L) (sets M) := sets_filter L fun t => decide (t ∉ sets M)
      have s3 := same_upd (o := .lst []) nfo
      refine ⟨fun m σ H' => ∃ (y : Option V) (Lf Z : List Row), σ = [some (.int n), some (.ref a), some (.ref b), y, some (.ref D), some (.ref fo)] ∧ Same H H' ∧ H' D = some (.lst (vals Lf)) ∧ H' fo = some (.lst (vals Z)) ∧ Rws H' Lf ∧ Rws H' Z ∧ m = Lf.length ∧ (sets Lf).Nodup ∧ (∀ s ∈ sets Lf, good n s) ∧
          sets Z ++ swapsL Lf.length (sets Lf) = steps (sets L) (sets M) ∧ Z.length + Lf.length ≤ 16, ⟨_, none, L.filter (fun r => decide (r.2 ∉ sets M)), [], rfl, s1.trans (s2.trans s3), s3 _ _ hDl, upd_same, ?_, Rws.nil, rfl, ?_, ?_, ?_, ?_⟩, fun m σ H' hW => ?_⟩
      · exact ((hF.rws.same s1).same (s2.trans s3)).sub fun r hr1 => (List.mem_filter.mp hr1).1
      · rw [eL]
        exact lacks_nodup hF.full
      · rw [eL]
        exact lacks_good hF.full
      · show swapsL _ _ = steps _ _
        unfold steps
        rw [← eL, sets_length]
      · have h1 := hF.len
        have h2 := List.length_filter_le (fun r : Row => decide (r.2 ∉ sets M)) L
        show 0 + _ ≤ 16
        omega
      · obtain ⟨y, Lf, Z, e1, sS, hDl', hfo, hLf, hZ, em, hnd, hg, hst, hlen⟩ := hW
        subst e1
        refine ⟨.ref D, rfl, D, vals Lf, rfl, .inl (SqL.of hDl'), _, _, rfl, rfl, _, rfl, ?_⟩
        cases Lf with
        | nil =>
          refine iteF ⟨_, rfl, q H' fo Z sS hfn hfo hZ ?_⟩
          rw [← hst]
          show sets Z = sets Z ++ []
          rw [List.append_nil]
        | cons r0 Lr =>
          have hpos : decide ((0 : Int) < ((vals (r0 :: Lr)).length : Int)) = true := decide_eq_true (by rw [vals_length, List.length_cons]; omega)
          rw [hpos]
          have hnil : sets (r0 :: Lr) ≠ [] := by
            intro z
            cases z
          have hfl := firstLeast_find hnil hnd hg
          have hfm := firstLeast_mem hnil hnd hg
          refine iteT ⟨_, fun σ' H'' hN => hN, ?_⟩
          refine ⟨.ref D, rfl, D, r0 :: Lr, firstLeast (sets (r0 :: Lr)), rfl, hDl', hLf, by rw [List.length_cons] at hlen ⊢; omega, hfl, fun H3 r s3 hrm hro => ?_⟩
          have hr3 : IsR H3 r.1 r.2 := s3 _ _ (hLf r hrm)
          have hrs : r.2 ∈ sets (r0 :: Lr) := mem_sets.mpr ⟨r.1, hrm⟩
          have hD3 := s3 _ _ hDl'
          have hfo3 := s3 _ _ hfo
          refine ⟨_, rfl, .inl ⟨rfl, _, .inl (.inl hD3)⟩, _, rfl, D, r.1, r.2, r0 :: Lr, rfl, rfl, hD3, hLf.same s3, hr3, hrs, ?_⟩
          have hfo4 : (upd H3 D (.lst (vals (dropR r.2 (r0 :: Lr))))) fo = some (.lst (vals Z)) := by
            rw [upd_ne hne.symm]
            exact hfo3
          refine ⟨_, rfl, .inl ⟨rfl, _, .inl (.inl hfo4)⟩, _, rfl, fo, vals Z, .ref r.1, rfl, rfl, hfo4, ?_, ?_⟩
          · rw [vals_length]
            exact small1000 (by omega)
          · have k1 : KT H3 (upd H3 D (.lst (vals (dropR r.2 (r0 :: Lr))))) := KT.upd hD3
            have k2 : KT (upd H3 D (.lst (vals (dropR r.2 (r0 :: Lr))))) (upd (upd H3 D (.lst (vals (dropR r.2 (r0 :: Lr))))) fo (.lst (vals Z ++ [V.ref r.1]))) := KT.upd hfo4
            have hdl : (dropR r.2 (r0 :: Lr)).length = Lr.length := by
              have : (sets (dropR r.2 (r0 :: Lr))).length = Lr.length := by
                rw [sets_dropR, List.length_erase_of_mem hrs, sets_length]
                rfl
              rw [← this, sets_length]
            refine ⟨Lr.length, by rw [em, List.length_cons]; exact Nat.lt_succ_self _, _, dropR r.2 (r0 :: Lr), Z ++ [r], rfl, same_wr (same_wr (sS.trans s3) hDn) hfn, ?_, ?_, ?_, ?_, hdl.symm, ?_, ?_, ?_, ?_⟩
            · rw [upd_ne hne, upd_same]
            · rw [upd_same, vals_append]
              rfl
            · exact ((hLf.same s3).kt (k1.trans k2)).sub dropR_sub
            · exact ((hZ.same s3).append (Rws.one hr3)).kt (k1.trans k2)
            · rw [sets_dropR]
              exact hnd.erase _
            · intro t ht
              rw [sets_dropR] at ht
              exact hg t (List.mem_of_mem_erase ht)
            · rw [← hst, hdl, sets_dropR, sets_append, List.append_assoc]
              have hk : (sets (r0 :: Lr)).length = Lr.length + 1 := by rw [sets_length]; rfl
              have := swapsL_cons hnil hk
              rw [sets_length] at this
              rw [this, ← hro]
              rfl
            · rw [hdl, List.length_append]
              rw [List.length_cons] at hlen
              show Z.length + 1 + Lr.length ≤ 16
              omega

theorem sc_swaps_hold : FnScope ["n", "family", "other", "thing", "here", "one"] ["n", "family", "other", "thing"] (defScope s_swaps_hold) := ⟨rfl, rfl, rfl, by decide +kernel, rfl, by decide +kernel, by decide +kernel⟩
def sp_swaps_hold : Sp := fun vs H Q _ => ∃ (n : Nat) (a b d : Addr) (L M Z : List Row), vs = [.int n, .ref a, .ref b, .ref d] ∧ FamR n H a L ∧ FamR n H b M ∧ H d = some (.lst (vals Z)) ∧ Rws H Z ∧ sets Z = steps (sets L) (sets M) ∧ ∀ H', Same H H' → Q (.bl true) H'
theorem here_len {n : Nat} {F R here : List S} (hF : Full n F) (hn : n ≤ 5) (h : Here n F R here) : here.length ≤ 32 := by
  have := nodup_len h.nd (m := powL n) fun x hx => mem_powL.mpr (h.good hF x hx)
  rw [powL_length] at this
  exact Nat.le_trans this (pow_small hn)
theorem ok_swaps_hold {f : Addr} {fd : FuncData} (F : Fun K "swaps_hold" "swaps_hold" s_swaps_hold f fd) (B : Blt mg) (c1 : Cal P w K mg base 7 "need_two_full" ["n", "family", "other"] sp_need_two_full) (c2 : Cal P w K mg base 3 "set_good" ["n", "thing"] sp_set_good)
    (c3 : Cal P w K mg base 2 "least_among" ["family"] sp_least_among) (c4 : Cal P w K mg base 2 "with_opposite" ["n", "family", "one"] sp_with_opposite) : FnOk P w K mg base CX0 8 f fd ["n", "family", "other", "thing"] sp_swaps_hold := by
  refine F.ok sc_swaps_hold (fun vs H Q E h => ?_) (fun cdv A outer s H vs Q E hr h => ?_)
  · obtain ⟨n, a, b, d, L, M, Z, rfl, _⟩ := h
    rfl
  · obtain ⟨n, a, b, d, L, M, Z, rfl, hF, hG, hd, hZ, hst, q⟩ := h
    have nd := sc_swaps_hold.nd
    refine ⟨_, pss_cons (ps_expr (pe_cal c1 hr (pa_cons (pv 0) (pa_cons (pv 1) (pa_cons (pv 2) pa_nil)))))
      (pss_cons (ps_if (pt_not (pt_val (pe_callB call_isi (by rfl) B.isi boot_isinstance (pa_cons (pv 3) (pa_cons (pe_bltn (v := .ty "list") (by rfl) B.lst boot_list rfl) pa_nil))))) pss_never pss_nil)
      (pss_cons (ps_set (i := 4) nd rfl (.inl rfl) (pv 1))
      (pss_cons (ps_for PassesOwn.never rfl (pi_list (pv 3)) (pg_name (i := 5) nd rfl (.inl rfl))
        (pss_cons (ps_if (PW.pt (pw_or (pt_not (pt_val (pe_cal c2 hr (pa_cons (pv 0) (pa_cons (pv 5) pa_nil))))) (pw_or1 (pt_cmpR (op_notInR (hu65 hr)) (pv 5) (pe_cal c3 hr (pa_cons (pv 4) pa_nil)) (by rfl))))) pss_never pss_nil)
        (pss_one (ps_set (i := 4) nd rfl (.inl rfl) (pe_cal c4 hr (pa_cons (pv 0) (pa_cons (pv 4) (pa_cons (pv 5) pa_nil))))))))
      (pss_one (ps_ret (pe_cmpR (op_eqF (hu64 hr)) (pv 4) (pv 2) (by rfl))))))), ?_⟩
    refine ⟨_, rfl, _, rfl, _, rfl, n, a, b, L, M, rfl, hF, hG, fun H1 s1 => ?_⟩
    refine ⟨.ref d, rfl, .ref d, .ty "list", _, _, true, rfl, .ty "list", .base (.lst (s1 _ _ hd)), kit_ty (by decide +kernel), true, rfl, iteF ?_⟩
    refine ⟨.ref a, rfl, .ref d, rfl, d, rfl, ⟨_, SqL.of (s1 _ _ hd)⟩, for_it (walk_list (xs := vals Z)) (fun i σ H' => ∃ (c : Addr) (y : Option V) (Lh : List Row), σ = [some (.int n), some (.ref a), some (.ref b), some (.ref d), some (.ref c), y] ∧ Same H H' ∧ H' c = some (.tup (vals Lh)) ∧ Rws H' Lh ∧
        Here n (sets L) ((steps (sets L) (sets M)).take i) (sets Lh) ∧ (sets Lh).Pairwise (· < ·)) ⟨a, none, L, rfl, s1, s1 _ _ hF.at_, hF.rws.same s1, by rw [List.take_zero]; exact Here.start hF.full, hF.full.srt⟩ (fun i σ H' _ ⟨_, _, _, _, e, _⟩ => SqL.of (e _ _ hd))
      (fun i x σ H' H2 hi hP hy => ?_) (fun σ H' hP => ?_)⟩
    · obtain ⟨c, y, Lh, e1, s2, hc, hLh, hH, hs⟩ := hP
      obtain ⟨rfl, hx⟩ := hy
      subst e1
      obtain ⟨r, hr1, rfl⟩ := vals_at hx
      have hro : (steps (sets L) (sets M))[i]? = some r.2 := by rw [← hst]; exact sets_get hr1
      obtain ⟨g1, g2, g3, g4, g5, g6, g7⟩ := steps_at hF.full hG.full hro hH
      have hrR := (hZ.same s2) r (mem_at hr1)
      have hll : Lh.length ≤ 32 := by rw [← sets_length]; exact here_len hF.full hF.hi hH
      refine ⟨_, rfl, _, rfl, n, r.1, r.2, rfl, hrR, g1, true, rfl, iteF ?_⟩
      refine ⟨_, rfl, _, rfl, c, Lh, rfl, hc, hLh, by omega, fun H3 p s3 hp => ?_⟩
      have hfil : Rws H3 (Lh.filter fun r => isLeast (sets Lh) r.2) := (hLh.same s3).sub fun t ht => (List.mem_filter.mp ht).1
      have hin : r.2 ∈ sets (Lh.filter fun r => isLeast (sets Lh) r.2) := by
        rw [sets_filter]
        exact List.mem_filter.mpr ⟨g2, decide_eq_true g3⟩
      refine ⟨r.1, p, r.2, _, rfl, s3 _ _ hrR, rfl, .inr hp, hfil, _, rfl, ?_⟩
      rw [if_pos rfl, decide_eq_true hin]
      refine iteF ⟨_, rfl, _, rfl, _, rfl, n, c, r.1, Lh, r.2, rfl, hF.hi, s3 _ _ hc, hLh.same s3, s3 _ _ hrR, by omega, fun t ht => g5 t.2 (mem_sets.mpr ⟨t.1, ht⟩), g6, fun H4 u Mh s4 hu hMh hsM hmem => ?_⟩
      exact ⟨u, _, Mh, rfl, s2.trans (s3.trans s4), hu, hMh, g7.other (srt_nodup hsM) hmem, hsM⟩
    · obtain ⟨c, y, Lh, e1, s2, hc, hLh, hH, hs⟩ := hP
      subst e1
      have hG2 := hG.same s2
      have hl : (vals Z).length = (steps (sets L) (sets M)).length := by rw [vals_length, ← sets_length, hst]
      rw [hl] at hH
      have e : sets Lh = sets M := srt_ext hs hG.full.srt (steps_done hF.full hG.full hH)
      refine ⟨_, rfl, _, rfl, c, b, Lh, M, rfl, rfl, .inr ⟨hc, hG2.at_⟩, hLh, hG2.rws, ?_⟩
      rw [if_neg (by decide), decide_eq_true e]
      exact q H' s2
end
end MS

/-! _law_sets, _law_stir, _law_share, _law_lies, _law_rest, _law_cell_at, _law_whole. -/
namespace MS
open PySem PySem.Spec PyProof.Rows L2
section
variable {P : Program} {w : World} {K : PySem.W.Frag} {mg : Str → Option Value} {base : Heap}
theorem sc_l_sets : FnScope ["_law_n", "_law_found", "_law_point", "_law_one"] ["_law_n"] (defScope s_l_sets) := ⟨rfl, rfl, rfl, by decide +kernel, rfl, by decide +kernel, by decide +kernel⟩
def sp_l_sets : Sp := fun vs H Q _ => ∃ n : Nat, vs = [.int n] ∧ n ≤ 5 ∧ ∀ H' p L, Same H H' → H p = none → H' p = some (.lst (vals L)) → Rws H' L → (sets L).Perm (powL n) → Q (.ref p) H'
theorem ok_l_sets {f : Addr} {fd : FuncData} (F : Fun K "_law_sets" "_law_sets" s_l_sets f fd) (B : Blt mg) : FnOk P w K mg base CX0 1 f fd ["_law_n"] sp_l_sets := by
  refine F.ok sc_l_sets (fun vs H Q E h => ?_) (fun cdv A outer s H vs Q E hr h => ?_)
  · obtain ⟨n, rfl, _⟩ := h
    rfl
  · obtain ⟨n, rfl, hn, q⟩ := h
    have nd := sc_l_sets.nd
    refine ⟨_, pss_cons (ps_set (i := 1) nd rfl (.inl rfl) (pe_lst (pa_cons (pe_tup pa_nil) pa_nil)))
      (pss_cons (ps_for PassesOwn.never rfl (pi_range1 (by rfl) B.rng (pa_cons (pv 0) pa_nil)) (pg_name (i := 2) nd rfl (.inr rfl))
        (pss_one (ps_set (i := 1) nd rfl (.inl rfl) (pe_op op_cat (pv 1) (pe_lc (own := [("_law_one", 3)]) (g := gName 3) (tt := tYes) rfl nd (pi_list (pv 1)) (blkOk_by (own := [("_law_one", 3)]) (N := ["_law_n", "_law_found", "_law_point", "_law_one"]) (sc := defScope s_l_sets) (by decide +kernel))
          (fun _ _ _ _ _ => pg_name (i := 3) nd rfl (.inl rfl)) (fun _ _ _ _ _ => pts_nil) (fun _ _ _ _ _ => pe_op (r := rCatA K) op_catA (pv 3) (pe_tup (pa_cons (pv 2) pa_nil))))))))
      (pss_one (ps_ret (pe_callB (cr_sortR (hu3 hr)) (by rfl) B.srt boot_sorted (pa_cons (pv 1) pa_nil))))), ?_⟩
    refine ⟨Nat.zero_le _, fun t nt => ⟨by show 1 ≤ sizeLine; decide, fun l nl => ?_⟩⟩
    refine ⟨_, rfl, n, rfl, by omega, by omega, for_it walk_range (fun i σ H' => ∃ (l : Addr) (y : Option V) (L : List Row), σ = [some (.int n), some (.ref l), y, none] ∧ Same H H' ∧ H' l = some (.lst (vals L)) ∧ Rws H' L ∧ sets L = powL i) ?_ (fun _ _ _ _ _ => trivial) (fun i x σ H' H2 hi hP hy => ?_) (fun σ H' hP => ?_)⟩
    · refine ⟨l, none, [(t, [])], rfl, (same_upd nt).trans (same_upd nl), upd_same, Rws.one ?_, rfl⟩
      exact same_upd nl _ _ (by rw [upd_same]; rfl)
    · obtain ⟨l, y, L, e1, hS, hl, hL, hp⟩ := hP
      obtain ⟨rfl, rfl⟩ := hy
      subst e1
      have hi5 : i < 5 := by
        have : i < (n : Int).toNat := hi
        omega
      have hlen : L.length ≤ 32 := by rw [len_pow hp]; exact pow_small (by omega)
      refine ⟨_, rfl, .ref l, rfl, l, rfl, ⟨_, SqL.of hl⟩, fun D hD => grow_lc (p := 0 + (i : Int)) hD hl hL (by omega) (fun _ => rfl) (fun _ => rfl) (fun _ => rfl) (fun r hr1 => by have := pow_len hp r hr1; omega) fun H3 M s3 hDl hM hsets => ?_⟩
      refine ⟨l, D, vals L, vals M, rfl, rfl, s3 _ _ hl, hDl, ?_, fun u nu => ?_⟩
      · have hm : M.length = L.length := by rw [← sets_length, hsets, List.length_map, sets_length]
        rw [vals_length, vals_length, hm]
        exact Nat.le_trans (Nat.add_le_add hlen hlen) (by decide)
      · refine ⟨u, _, L ++ M, rfl, hS.trans (s3.trans (same_upd nu)), by rw [upd_same, vals_append], ((hL.same s3).append hM).same (same_upd nu), ?_⟩
        rw [sets_append, hsets, hp, Int.zero_add]
        rfl
    · obtain ⟨l, y, L, e1, hS, hl, hL, hp⟩ := hP
      subst e1
      have hp' : sets L = powL n := by rw [hp]; rfl
      have hlen : L.length ≤ 32 := by rw [len_pow hp']; exact pow_small hn
      refine ⟨_, rfl, l, L, rfl, hl, hL, okk_pow hp', by omega, fun M p hperm hs np => ?_⟩
      refine q _ p M (hS.trans (same_upd np)) (hS.free np) upd_same ((hL.same (same_upd np)).sub fun r hr1 => hperm.mem_iff.mp hr1) ?_
      rw [← hp']
      exact hperm.map _

theorem sc_l_stir : FnScope ["_law_cell", "_law_k", "_law_number"] ["_law_cell", "_law_k"] (defScope s_l_stir) := ⟨rfl, rfl, rfl, by decide +kernel, rfl, by decide +kernel, by decide +kernel⟩
def sp_l_stir : Sp := fun vs H Q _ => ∃ c k : Int, vs = [.int c, .int k] ∧ ∀ m, Q (.int m) H
theorem pos_mod {i j : Int} (h : 0 < j) : (fun _ j : Int => 0 < j) i j := h
theorem ok_l_stir {f : Addr} {fd : FuncData} (F : Fun K "_law_stir" "_law_stir" s_l_stir f fd) : FnOk P w K mg base CX0 1 f fd ["_law_cell", "_law_k"] sp_l_stir := by
  refine F.ok sc_l_stir (fun vs H Q E h => ?_) (fun cdv A outer s H vs Q E hr h => ?_)
  · obtain ⟨c, k, rfl, _⟩ := h
    rfl
  · obtain ⟨c, k, rfl, q⟩ := h
    have nd := sc_l_stir.nd
    refine ⟨_, pss_cons (ps_set (i := 2) nd rfl (.inl rfl) (pe_op op_mod (pe_op op_mul (pe_op op_add (pe_op op_add (pe_op op_mod (pv 0) pe_int) (pe_op op_mul pe_int (pv 1))) pe_int) pe_int) pe_int))
      (pss_cons (ps_set (i := 2) nd rfl (.inl rfl) (pe_op op_mod (pe_op op_mul (pv 2) (pv 2)) pe_int))
      (pss_cons (ps_set (i := 2) nd rfl (.inl rfl) (pe_op op_mod (pe_op op_mul (pe_op op_add (pv 2) (pe_op op_mul pe_int (pe_op op_add (pv 1) pe_int))) pe_int) pe_int))
      (pss_one (ps_ret (pe_op op_fdiv (pv 2) pe_int))))), ?_⟩
    refine ⟨_, rfl, _, _, rfl, rfl, (by show (0 : Int) < 2147483647; decide), _, rfl, _, _, rfl, rfl, .inl ⟨by decide, by decide⟩, _, _, rfl, rfl, _, _, rfl, rfl, _, _, rfl, rfl, .inr ⟨by decide, by decide⟩, _, _, rfl, rfl, pos_mod (i := 0) (by decide), ?_⟩
    refine ⟨_, rfl, _, rfl, _, _, rfl, rfl, .inl ⟨?_, ?_⟩, _, _, rfl, rfl, pos_mod (i := 0) (by decide), ?_⟩
    · exact Int.lt_of_lt_of_le (by decide) (Int.emod_nonneg _ (by decide))
    · exact Int.lt_trans (Int.emod_lt_of_pos _ (by decide)) (by decide)
    · refine ⟨_, rfl, _, rfl, _, _, rfl, rfl, _, _, rfl, rfl, .inl ⟨by decide, by decide⟩, _, _, rfl, rfl, _, _, rfl, rfl, .inr ⟨by decide, by decide⟩, _, _, rfl, rfl, pos_mod (i := 0) (by decide), ?_⟩
      exact ⟨_, rfl, _, _, rfl, rfl, ⟨by decide, by decide⟩, q _⟩

/-- [p for p in one if p in other] over ints, its test with neg for not in -/
theorem ints_lc {H1 : Hp} {a b : Addr} {z t : S} {D : Addr} (hD : H1 D = none) (ha : IsR H1 a z) (hb : IsR H1 b t) (hn : z.length ≤ 1000) (neg : Bool) {σ : L2.St} {vs : List Nat} {i j : Nat} {Qd : Hp → Prop}
    (hw : ∀ r : V, wipe ((wipe σ vs).set i (some r)) vs = wipe σ vs) (hi : ∀ r : V, ((wipe σ vs).set i (some r))[i]? = some (some r)) (hj : ∀ r : V, ((wipe σ vs).set i (some r))[j]? = some (some (.ref b)))
    (q : ∀ H', Same H1 H' → H' D = some (.lst ((z.filter fun p => if neg = true then !decide (p ∈ t) else decide (p ∈ t)).map V.int)) → Qd H') :
    ∃ W : Nat → Nat → Hp → Prop, (∃ m, W 0 m (upd H1 D (.lst []))) ∧ ∀ k m H, W k m H →
      ((Itt K a).stop k H ∧ Qd H) ∨ ((Itt K a).go k H ∧ ∃ Nx : Hp → Prop, (∀ H', Nx H' → ∃ m', m' < m ∧ W (k + 1) m' H') ∧ ∀ x H', (Itt K a).yld k H x H' → gName i x (wipe σ vs) H' fun σ2 H2 => wipe σ2 vs = wipe σ vs ∧ tTest (tOp (rIn K neg) (tVar i) (tVar j)) σ2 H2 fun b H3 =>
        if b = true then tVar i σ2 H3 fun y H4 => ∃ acc, H4 D = some (.lst acc) ∧ acc.length < sizeLine ∧ Nx (upd H4 D (.lst (acc ++ [y]))) else Nx H3) := by
  refine lc_gen (γ := Int) (walk_tup (xs := z.map V.int)) V.int (fun _ _ => True) (fun k cs => cs = (z.take k).filter fun p => if neg = true then !decide (p ∈ t) else decide (p ∈ t)) hD (by rw [List.length_map]; exact hn) (fun H' e => SqT.of (e _ _ ha)) (fun _ _ _ _ h => h) rfl (fun k x H1' H2 cs Nx hk hS hDl hok hf hy drop keep => ?_) fun H1' cs hS hDl hok hf => ?_
  · obtain ⟨rfl, hx⟩ := hy
    obtain ⟨u, hu, rfl⟩ := ints_at hx
    refine ⟨hw _, _, hi _, _, hj _, b, t.map V.int, rfl, .inr (SqT.of (hS _ _ hb)), rfl, flat_ints t, _, rfl, ?_⟩
    rw [inV_ints]
    generalize hc : (if neg = true then !decide (u ∈ t) else decide (u ∈ t)) = c
    cases c with
    | false =>
      refine iteF (drop H2 (Same.refl _) ?_)
      rw [take_at hu, List.filter_append, hf, List.filter_cons_of_neg (by rw [hc]; decide)]
      simp
    | true =>
      refine iteT ⟨_, hi _, keep u H2 (Same.refl _) trivial ?_⟩
      rw [take_at hu, List.filter_append, hf, List.filter_cons_of_pos (by rw [hc])]
      rfl
  · rw [List.length_map, List.take_length] at hf
    subst hf
    exact q H1' hS hDl
theorem meet_len (z t : S) : decide ((0 : Int) < ((z.filter fun p => decide (p ∈ t)).length : Int)) = meetB z t := by
  by_cases h : meetB z t = true
  · rw [h]
    obtain ⟨x, h1, h2⟩ := meetB_iff.mp h
    have : 0 < (z.filter fun p => decide (p ∈ t)).length := List.length_pos_of_mem (List.mem_filter.mpr ⟨h1, decide_eq_true h2⟩)
    exact decide_eq_true (by omega)
  · rw [Bool.eq_false_iff.mpr h]
    have : (z.filter fun p => decide (p ∈ t)) = [] := List.filter_eq_nil_iff.mpr fun x hx hd => h (meetB_iff.mpr ⟨x, hx, of_decide_eq_true hd⟩)
    rw [this]
    rfl
theorem sub_len0 (z t : S) : decide (V.int ((z.filter fun p => !decide (p ∈ t)).length : Int) = V.int 0) = subB z t := by
  by_cases h : subB z t = true
  · rw [h]
    have : (z.filter fun p => !decide (p ∈ t)) = [] := List.filter_eq_nil_iff.mpr fun x hx hd => by
      have := subB_iff.mp h x hx
      simp [this] at hd
    rw [this]
    rfl
  · rw [Bool.eq_false_iff.mpr h]
    refine decide_eq_false fun e => h (subB_iff.mpr fun x hx => ?_)
    have e1 : ((z.filter fun p => !decide (p ∈ t)).length : Int) = 0 := V.int.inj e
    have e2 : (z.filter fun p => !decide (p ∈ t)) = [] := List.eq_nil_of_length_eq_zero (by omega)
    by_cases hx' : x ∈ t
    · exact hx'
    · exact absurd (by simpa using hx') (List.filter_eq_nil_iff.mp e2 x hx)
theorem sc_l_share : FnScope ["_law_one", "_law_other", "_law_point"] ["_law_one", "_law_other"] (defScope s_l_share) := ⟨rfl, rfl, rfl, by decide +kernel, rfl, by decide +kernel, by decide +kernel⟩
def sp_l_share : Sp := fun vs H Q _ => ∃ (a b : Addr) (z t : S), vs = [.ref a, .ref b] ∧ IsR H a z ∧ IsR H b t ∧ z.length ≤ 1000 ∧ ∀ H', Same H H' → Q (.bl (meetB z t)) H'
theorem ok_l_share {f : Addr} {fd : FuncData} (F : Fun K "_law_share" "_law_share" s_l_share f fd) (B : Blt mg) : FnOk P w K mg base CX0 1 f fd ["_law_one", "_law_other"] sp_l_share := by
  refine F.ok sc_l_share (fun vs H Q E h => ?_) (fun cdv A outer s H vs Q E hr h => ?_)
  · obtain ⟨a, b, z, t, rfl, _⟩ := h
    rfl
  · obtain ⟨a, b, z, t, rfl, ha, hb, hn, q⟩ := h
    have nd := sc_l_share.nd
    refine ⟨_, pss_one (ps_ret (pe_cmpR op_gt (pe_callB call_len_seq (by rfl) B.len PySem.boot_len (pa_cons (pe_lc (own := [("_law_point", 2)]) (g := gName 2) rfl nd (pi_tup (pv 0)) (blkOk_by (own := [("_law_point", 2)]) (N := ["_law_one", "_law_other", "_law_point"]) (sc := defScope s_l_share) (by decide +kernel))
      (fun _ _ _ _ _ => pg_name (i := 2) nd rfl (.inl rfl)) (fun _ _ _ _ _ => pts_one (pt_cmpR (r := rIn K false) op_in_seq (pv 2) (pv 1) (by rfl))) (fun _ _ _ _ _ => pv 2)) pa_nil)) pe_int (nomark _))), ?_⟩
    refine ⟨.ref a, rfl, a, rfl, ⟨_, SqT.of ha⟩, fun D hD => ints_lc hD ha hb hn false (fun _ => rfl) (fun _ => rfl) (fun _ => rfl) fun H1 hS hDl => ?_⟩
    refine ⟨D, _, rfl, .inl (SqL.of hDl), _, _, rfl, rfl, ?_⟩
    have e := meet_len z t
    show Q (.bl (decide ((0 : Int) < (((z.filter fun p => decide (p ∈ t)).map V.int).length : Int)))) H1
    rw [List.length_map, e]
    exact q H1 hS
theorem sc_l_lies : FnScope ["_law_one", "_law_other", "_law_point"] ["_law_one", "_law_other"] (defScope s_l_lies) := ⟨rfl, rfl, rfl, by decide +kernel, rfl, by decide +kernel, by decide +kernel⟩
def sp_l_lies : Sp := fun vs H Q _ => ∃ (a b : Addr) (z t : S), vs = [.ref a, .ref b] ∧ IsR H a z ∧ IsR H b t ∧ z.length ≤ 1000 ∧ ∀ H', Same H H' → Q (.bl (subB z t)) H'
theorem ok_l_lies {f : Addr} {fd : FuncData} (F : Fun K "_law_lies" "_law_lies" s_l_lies f fd) (B : Blt mg) : FnOk P w K mg base CX0 1 f fd ["_law_one", "_law_other"] sp_l_lies := by
  refine F.ok sc_l_lies (fun vs H Q E h => ?_) (fun cdv A outer s H vs Q E hr h => ?_)
  · obtain ⟨a, b, z, t, rfl, _⟩ := h
    rfl
  · obtain ⟨a, b, z, t, rfl, ha, hb, hn, q⟩ := h
    have nd := sc_l_lies.nd
    refine ⟨_, pss_one (ps_ret (pe_cmpR op_eq (pe_callB call_len_seq (by rfl) B.len PySem.boot_len (pa_cons (pe_lc (own := [("_law_point", 2)]) (g := gName 2) rfl nd (pi_tup (pv 0)) (blkOk_by (own := [("_law_point", 2)]) (N := ["_law_one", "_law_other", "_law_point"]) (sc := defScope s_l_lies) (by decide +kernel))
      (fun _ _ _ _ _ => pg_name (i := 2) nd rfl (.inl rfl)) (fun _ _ _ _ _ => pts_one (pt_cmpR (r := rIn K true) op_notIn_seq (pv 2) (pv 1) (by rfl))) (fun _ _ _ _ _ => pv 2)) pa_nil)) pe_int (nomark _))), ?_⟩
    refine ⟨.ref a, rfl, a, rfl, ⟨_, SqT.of ha⟩, fun D hD => ints_lc hD ha hb hn true (fun _ => rfl) (fun _ => rfl) (fun _ => rfl) fun H1 hS hDl => ?_⟩
    refine ⟨D, _, rfl, .inl (SqL.of hDl), rfl, ?_⟩
    have e := sub_len0 z t
    show Q (.bl (decide (V.int (((z.filter fun p => !decide (p ∈ t)).map V.int).length : Int) = V.int 0))) H1
    rw [List.length_map, e]
    exact q H1 hS
theorem sc_l_rest : FnScope ["_law_n", "_law_one", "_law_point"] ["_law_n", "_law_one"] (defScope s_l_rest) := ⟨rfl, rfl, rfl, by decide +kernel, rfl, by decide +kernel, by decide +kernel⟩
theorem ok_l_rest {f : Addr} {fd : FuncData} (F : Fun K "_law_rest" "_law_rest" s_l_rest f fd) (B : Blt mg) : FnOk P w K mg base CX0 1 f fd ["_law_n", "_law_one"] sp_other_points := by
  refine F.ok sc_l_rest (fun vs H Q E h => ?_) (fun cdv A outer s H vs Q E hr h => ?_)
  · obtain ⟨n, a, z, rfl, _⟩ := h
    rfl
  · obtain ⟨n, a, z, rfl, ha, hn, q⟩ := h
    have nd := sc_l_rest.nd
    refine ⟨_, pss_one (ps_ret (pe_callTy call_tuple_of (by rfl) B.tup boot_tuple (pa_cons (pe_lc (own := [("_law_point", 2)]) (g := gName 2) rfl nd (pi_range1 (by rfl) B.rng (pa_cons (pv 0) pa_nil)) (blkOk_by (own := [("_law_point", 2)]) (N := ["_law_n", "_law_one", "_law_point"]) (sc := defScope s_l_rest) (by decide +kernel))
      (fun _ _ _ _ _ => pg_name (i := 2) nd rfl (.inl rfl)) (fun _ _ _ _ _ => pts_one (pt_cmpR (r := rIn K true) op_notIn_seq (pv 2) (pv 1) (by rfl))) (fun _ _ _ _ _ => pv 2)) pa_nil))), ?_⟩
    refine ⟨_, rfl, n, rfl, by omega, by omega, fun D hD => compl_lc hD ha hn (fun _ => rfl) (fun _ => rfl) (fun _ => rfl) fun H1 hS hDl => ?_⟩
    exact ⟨D, _, rfl, .inl ⟨SqL.of hDl, fun u nu => q _ u (hS.trans (same_upd nu)) upd_same⟩⟩
theorem sc_l_cell_at : FnScope ["_law_script", "_law_k"] ["_law_script", "_law_k"] (defScope s_l_cell_at) := ⟨rfl, rfl, rfl, by decide +kernel, rfl, by decide +kernel, by decide +kernel⟩
def sp_l_cell_at (K : PySem.W.Frag) : Sp := fun vs H Q _ => ∃ (a : Addr) (ns : List Int) (k : Nat), vs = [.ref a, .int k] ∧ SqL K H a (ns.map V.int) ∧ ∀ m, Q (.int m) H
theorem ok_l_cell_at {f : Addr} {fd : FuncData} (F : Fun K "_law_cell_at" "_law_cell_at" s_l_cell_at f fd) (B : Blt mg) : FnOk P w K mg base CX0 1 f fd ["_law_script", "_law_k"] (sp_l_cell_at K) := by
  refine F.ok sc_l_cell_at (fun vs H Q E h => ?_) (fun cdv A outer s H vs Q E hr h => ?_)
  · obtain ⟨a, ns, k, rfl, _⟩ := h
    rfl
  · obtain ⟨a, ns, k, rfl, ha, q⟩ := h
    refine ⟨_, pss_cons (ps_if (pt_cmpR op_lt (pv 1) (pe_callB call_len_seq (by rfl) B.len PySem.boot_len (pa_cons (pv 0) pa_nil)) (nomark _)) (pss_one (ps_ret (pe_ix ix_list (pv 0) (pv 1) (fun _ _ => rfl)))) pss_nil)
      (pss_one (ps_ret pe_int)), ?_⟩
    refine ⟨_, rfl, _, rfl, a, _, rfl, .inl ha, _, _, rfl, rfl, _, rfl, ite2 (fun h => ?_) (fun _ => q 0)⟩
    have hk : (k : Int) < ((ns.map V.int).length : Int) := of_decide_eq_true h
    rw [List.length_map] at hk
    have hk' : k < ns.length := by omega
    exact ⟨_, rfl, _, rfl, a, _, k, _, rfl, rfl, ha, atI_nat (ints_get (List.getElem?_eq_getElem hk')), q _⟩
theorem sc_l_whole : FnScope ["_law_found"] ["_law_found"] (defScope s_l_whole) := ⟨rfl, rfl, rfl, by decide +kernel, rfl, by decide +kernel, by decide +kernel⟩
theorem ok_l_whole {f : Addr} {fd : FuncData} (F : Fun K "_law_whole" "_law_whole" s_l_whole f fd) (B : Blt mg) : FnOk P w K mg base CX0 1 f fd ["_law_found"] sp_is_whole := by
  refine F.ok sc_l_whole (fun vs H Q E h => ?_) (fun cdv A outer s H vs Q E hr h => ?_)
  · obtain ⟨i, rfl, _⟩ := h
    rfl
  · obtain ⟨i, rfl, q⟩ := h
    refine ⟨_, pss_one (ps_ret (pe_and (pe_callB call_isi (by rfl) B.isi boot_isinstance (pa_cons (pv 0) (pa_cons (pe_bltn (v := .ty "int") (by rfl) B.int boot_int rfl) pa_nil)))
      (pe_one (pe_not (pe_callB call_isi (by rfl) B.isi boot_isinstance (pa_cons (pv 0) (pa_cons (pe_bltn (v := .ty "bool") (by rfl) B.bool boot_bool rfl) pa_nil))))))), ?_⟩
    refine ⟨.int i, rfl, .int i, .ty "int", _, _, true, rfl, .ty "int", .base (.int i), kit_ty (by decide +kernel), true, rfl, iteT ?_⟩
    exact ⟨.int i, rfl, .int i, .ty "bool", _, _, false, rfl, .ty "bool", .base (.int i), kit_ty (by decide +kernel), false, rfl, q⟩
end
end MS

/-! _law_full_by, _law_led. -/
namespace MS
open PySem PySem.Spec PyProof.Rows L2
section
variable {P : Program} {w : World} {K : PySem.W.Frag} {mg : Str → Option Value} {base : Heap}
abbrev rLenS (K : PySem.W.Frag) : List V → Hp → VK → Prop := fun xs H Q => ∃ p ys, xs = [.ref p] ∧ (SqL K H p ys ∨ SqT K H p ys) ∧ Q (.int ys.length) H
/-- if one != () and len([other for other in found if not share(one, other)]) == 0: found = found + [one] -/
abbrev tJoin (K : PySem.W.Frag) : TS := tIfS (tAnd (tTest (tOp (rEqR true) (tVar 5) (tTup tNil))) (tTest (tOp rEq (tCB (rLenS K) (tCons (tLc (iList K (tVar 2)) (gName 6) (tNot (tB (tCall sp_l_share [] E0 (tCons (tVar 5) (tCons (tVar 6) tNil))))) (tVar 6) [6]) tNil)) (tC (.int 0)))))
  (tAsg (tOp rCat (tVar 2) (tLst (tCons (tVar 5) tNil))) (gName 2)) tNext
theorem join_rd {D : Ends} {H : Hp} {v0 v1 v4 : Option V} {he : V} {fo oa : Addr} {A : List Row} {o : S} (hf : H fo = some (.lst (vals A))) (hA : Rws H A) (ho : IsR H oa o) (hn : A.length ≤ 900) (hol : o.length ≤ 1000)
    (no : ∀ H', Same H H' → (o = [] ∨ ∃ r ∈ A, meetB o r.2 = false) → D.nx [v0, v1, some (.ref fo), some he, v4, some (.ref oa), none] H')
    (yes : ∀ H' fo', Same H H' → H' fo' = some (.lst (vals (A ++ [(oa, o)]))) → o ≠ [] → (∀ r ∈ A, meetB o r.2 = true) → D.nx [v0, v1, some (.ref fo'), some he, v4, some (.ref oa), none] H') :
    tJoin K D [v0, v1, some (.ref fo), some he, v4, some (.ref oa), none] H := by
  refine ⟨_, rfl, Nat.zero_le _, fun e ne => ?_⟩
  have s1 := same_upd (o := .tup []) ne
  refine ⟨oa, e, o, [], rfl, s1 _ _ ho, rfl, upd_same, _, rfl, ?_⟩
  rw [if_pos rfl]
  by_cases h0 : o = []
  · rw [decide_eq_true h0]
    exact iteF (iteF (no _ s1 (.inl h0)))
  · rw [decide_eq_false h0]
    refine iteT ⟨.ref fo, rfl, fo, rfl, ⟨_, SqL.of (s1 _ _ hf)⟩, fun D2 hD2 => filt_lc (walk_list (xs := vals A)) (fun H' e => SqL.of (e _ _ (s1 _ _ hf))) hD2 (hA.same s1) (by omega) (fun t => !meetB o t) (fun _ => rfl) (fun _ => rfl) (fun r hr1 H2 Kk s2 kk => ?_) fun H2 s2 hDl => ?_⟩
    · exact ⟨_, rfl, _, rfl, oa, r.1, o, r.2, rfl, s2 _ _ (s1 _ _ ho), s2 _ _ (s1 _ _ (hA r hr1)), hol, fun H3 s3 => ⟨_, rfl, kk H3 s3⟩⟩
    · refine ⟨D2, _, rfl, .inl (SqL.of hDl), rfl, _, rfl, ?_⟩
      by_cases hall : ∀ r ∈ A, meetB o r.2 = true
      · have hnil : (A.filter fun r => !meetB o r.2) = [] := List.filter_eq_nil_iff.mpr fun r hr1 h => by rw [hall r hr1] at h; cases h
        rw [hnil]
        refine iteT ⟨.ref fo, rfl, _, rfl, by show 1 ≤ sizeLine; decide, fun c nc => ?_⟩
        have s3 := same_upd (o := .lst [V.ref oa]) nc
        refine ⟨fo, c, vals A, [.ref oa], rfl, rfl, s3 _ _ (s2 _ _ (s1 _ _ hf)), upd_same, ?_, fun u nu => ?_⟩
        · rw [vals_length]
          show _ + 1 ≤ sizeLine
          exact Nat.le_of_lt (small1000 (by omega))
        · exact yes _ u (s1.trans (s2.trans (s3.trans (same_upd nu)))) (by rw [upd_same, vals_append]; rfl) h0 hall
      · obtain ⟨r, hr1⟩ := Classical.not_forall.mp hall
        obtain ⟨hrA, hrm⟩ := Classical.not_imp.mp hr1
        have hrm' : meetB o r.2 = false := Bool.eq_false_iff.mpr hrm
        have hpos : 0 < (A.filter fun r => !meetB o r.2).length := List.length_pos_of_mem (List.mem_filter.mpr ⟨hrA, by rw [hrm']; rfl⟩)
        have hd : decide (V.int ((vals (A.filter fun r => !meetB o r.2)).length : Int) = V.int 0) = false := decide_eq_false fun e => by
          have e1 : ((vals (A.filter fun r => !meetB o r.2)).length : Int) = 0 := V.int.inj e
          rw [vals_length] at e1
          omega
        rw [hd]
        exact iteF (no H2 (s1.trans s2) (.inr ⟨r, hrA, hrm'⟩))

theorem sc_l_full_by : FnScope ["_law_n", "_law_cell", "_law_found", "_law_sets_here", "_law_k", "_law_one", "_law_other"] ["_law_n", "_law_cell"] (defScope s_l_full_by) := ⟨rfl, rfl, rfl, by decide +kernel, rfl, by decide +kernel, by decide +kernel⟩
def sp_l_full_by : Sp := fun vs H Q _ => ∃ (n : Nat) (c : Int), vs = [.int n, .int c] ∧ 1 ≤ n ∧ n ≤ 5 ∧ ∀ H' p L, Same H H' → FamR n H' p L → Q (.ref p) H'
/-- what has been chosen: sets of the ground, each with a point, each two meet -/
structure Chosen (n : Nat) (A : List Row) : Prop where
  good : ∀ r ∈ A, MS.good n r.2
  meet : ∀ r ∈ A, ∀ t ∈ A, meetB r.2 t.2 = true
theorem Chosen.nil {n : Nat} : Chosen n [] := ⟨(fun r h => by cases h), (fun r h => by cases h)⟩
theorem Chosen.snoc {n : Nat} {A : List Row} {a : Addr} {o : S} (c : Chosen n A) (g : MS.good n o) (h0 : o ≠ []) (h : ∀ r ∈ A, meetB o r.2 = true) : Chosen n (A ++ [(a, o)]) := by
  refine ⟨fun r hr => ?_, fun r hr t ht => ?_⟩
  · rcases List.mem_append.mp hr with q | q
    · exact c.good r q
    · rw [List.mem_singleton.mp q]; exact g
  · rcases List.mem_append.mp hr with q | q
    · rcases List.mem_append.mp ht with z | z
      · exact c.meet r q t z
      · rw [List.mem_singleton.mp z]; exact meetB_symm (h r q)
    · rw [List.mem_singleton.mp q]
      rcases List.mem_append.mp ht with z | z
      · exact h t z
      · rw [List.mem_singleton.mp z]; exact meetB_self h0
theorem good_len {n : Nat} {s : S} (g : good n s) : s.length ≤ n := by
  have := nodup_len (nodup_of_pw (R := fun a b : Int => a < b) (fun a => Int.lt_irrefl a) g.1) (m := pts n) fun x hx => mem_pts.mpr (g.2 x hx)
  rw [pts_length] at this
  exact this
theorem ok_l_full_by {f : Addr} {fd : FuncData} (F : Fun K "_law_full_by" "_law_full_by" s_l_full_by f fd) (B : Blt mg) (c1 : Cal P w K mg base 1 "_law_sets" ["_law_n"] sp_l_sets) (c2 : Cal P w K mg base 1 "_law_stir" ["_law_cell", "_law_k"] sp_l_stir) (c3 : Cal P w K mg base 1 "_law_share" ["_law_one", "_law_other"] sp_l_share) :
    FnOk P w K mg base CX0 2 f fd ["_law_n", "_law_cell"] sp_l_full_by := by
  refine F.ok sc_l_full_by (fun vs H Q E h => ?_) (fun cdv A0 outer s H vs Q E hr h => ?_)
  · obtain ⟨n, c, rfl, _⟩ := h
    rfl
  · obtain ⟨n, c, rfl, hn1, hn5, q⟩ := h
    have nd := sc_l_full_by.nd
    refine ⟨_, pss_cons (ps_set (i := 2) nd rfl (.inl rfl) (pe_lst pa_nil))
      (pss_cons (ps_set (i := 3) nd rfl (.inl rfl) (pe_cal c1 hr (pa_cons (pv 0) pa_nil)))
      (pss_cons (ps_for PassesOwn.never rfl (pi_range1 (by rfl) B.rng (pa_cons (pe_callB call_len_seq (by rfl) B.len PySem.boot_len (pa_cons (pv 3) pa_nil)) pa_nil)) (pg_name (i := 4) nd rfl (.inl rfl))
        (pss_cons (ps_set (i := 5) nd rfl (.inr rfl) (pe_ix ix_list (pv 3) (pe_op op_mod (pe_cal c2 hr (pa_cons (pv 1) (pa_cons (pv 4) pa_nil))) (pe_callB call_len_seq (by rfl) B.len PySem.boot_len (pa_cons (pv 3) pa_nil))) (fun _ _ => rfl)))
        (pss_one (t := tJoin K) (ps_if (PW.pt (pw_and (pt_cmpR (op_neR (hu64 hr)) (pv 5) (pe_tup pa_nil) (by rfl)) (pw_and1 (pt_cmpR op_eq (pe_callB (r := rLenS K) call_len_seq (by rfl) B.len PySem.boot_len (pa_cons (pe_lc (own := [("_law_other", 6)]) (g := gName 6) (wi := iList K (tVar 2)) rfl nd (pi_list (pv 2))
            (blkOk_by (own := [("_law_other", 6)]) (N := ["_law_n", "_law_cell", "_law_found", "_law_sets_here", "_law_k", "_law_one", "_law_other"]) (sc := defScope s_l_full_by) (by decide +kernel)) (fun _ _ _ _ _ => pg_name (i := 6) nd rfl (.inl rfl)) (fun _ _ _ _ _ => pts_one (pt_not (pt_val (pe_cal c3 hr (pa_cons (pv 5) (pa_cons (pv 6) pa_nil)))))) (fun _ _ _ _ _ => pv 6)) pa_nil)) pe_int (nomark _)))))
          (pss_one (ps_set (i := 2) nd rfl (.inl rfl) (pe_op op_cat (pv 2) (pe_lst (pa_cons (pv 5) pa_nil))))) pss_nil))))
      (pss_cons (ps_for PassesOwn.never rfl (pi_list (pv 3)) (pg_name (i := 5) nd rfl (.inr rfl))
        (pss_one (t := tJoin K) (ps_if (PW.pt (pw_and (pt_cmpR (op_neR (hu64 hr)) (pv 5) (pe_tup pa_nil) (by rfl)) (pw_and1 (pt_cmpR op_eq (pe_callB (r := rLenS K) call_len_seq (by rfl) B.len PySem.boot_len (pa_cons (pe_lc (own := [("_law_other", 6)]) (g := gName 6) (wi := iList K (tVar 2)) rfl nd (pi_list (pv 2))
            (blkOk_by (own := [("_law_other", 6)]) (N := ["_law_n", "_law_cell", "_law_found", "_law_sets_here", "_law_k", "_law_one", "_law_other"]) (sc := defScope s_l_full_by) (by decide +kernel)) (fun _ _ _ _ _ => pg_name (i := 6) nd rfl (.inl rfl)) (fun _ _ _ _ _ => pts_one (pt_not (pt_val (pe_cal c3 hr (pa_cons (pv 5) (pa_cons (pv 6) pa_nil)))))) (fun _ _ _ _ _ => pv 6)) pa_nil)) pe_int (nomark _)))))
          (pss_one (ps_set (i := 2) nd rfl (.inl rfl) (pe_op op_cat (pv 2) (pe_lst (pa_cons (pv 5) pa_nil))))) pss_nil)))
      (pss_one (ps_ret (pe_callTy call_tuple_of (by rfl) B.tup boot_tuple (pa_cons (pe_callB (cr_sortS rfl (hu4 hr)) (by rfl) B.srt boot_sorted (pa_cons (pe_callTy (cr_setR rfl (hu64 hr)) (by rfl) B.set boot_set (pa_cons (pv 2) pa_nil)) pa_nil)) pa_nil))))))), ?_⟩
    refine ⟨Nat.zero_le _, fun f0 nf0 => ?_⟩
    refine ⟨_, rfl, n, rfl, hn5, fun H1 he L s1 nhe hhe hL hperm => ?_⟩
    have s01 : Same H H1 := (same_upd nf0).trans s1
    have hlen : L.length = 2 ^ n := by rw [← sets_length, hperm.length_eq, powL_length]
    have hlen32 : L.length ≤ 32 := by rw [hlen]; exact pow_small hn5
    have hpos : 0 < L.length := by rw [hlen]; exact Nat.pow_pos (by decide)
    have hgood : ∀ r ∈ L, good n r.2 := fun r hr1 => mem_powL.mp (hperm.mem_iff.mp (mem_sets.mpr ⟨r.1, hr1⟩))
    refine ⟨_, rfl, he, vals L, rfl, .inl (SqL.of hhe), ((vals L).length : Int), rfl, by omega, by rw [vals_length]; omega, for_it walk_range (fun k σ H' => ∃ (fo : Addr) (y4 y5 : Option V) (A : List Row), σ = [some (.int n), some (.int c), some (.ref fo), some (.ref he), y4, y5, none] ∧ Same H1 H' ∧ H' fo = some (.lst (vals A)) ∧ Rws H' A ∧ A.length ≤ k ∧ Chosen n A)
      ⟨f0, none, none, [], rfl, Same.refl _, s1 _ _ upd_same, Rws.nil, Nat.le_refl _, Chosen.nil⟩ (fun _ _ _ _ _ => trivial) (fun k x σ H' H2 hk hP hy => ?_) (fun σ H' hP => ?_)⟩
    · obtain ⟨fo, y4, y5, A, e1, s2, hfo, hA, hAl, hc⟩ := hP
      obtain ⟨rfl, rfl⟩ := hy
      subst e1
      have hk32 : k < 32 := by
        have : k < ((vals L).length : Int).toNat := hk
        rw [vals_length] at this
        omega
      refine ⟨_, rfl, _, rfl, _, rfl, c, 0 + (k : Int), rfl, fun m => ?_⟩
      refine ⟨_, rfl, he, vals L, rfl, .inl (SqL.of (s2 _ _ hhe)), m, ((vals L).length : Int), rfl, rfl, by rw [vals_length]; show (0 : Int) < _; omega, ?_⟩
      have hm0 : 0 ≤ m % ((vals L).length : Int) := Int.emod_nonneg _ (by rw [vals_length]; omega)
      have hm1 : m % ((vals L).length : Int) < ((vals L).length : Int) := Int.emod_lt_of_pos _ (by rw [vals_length]; omega)
      have hj : (m % ((vals L).length : Int)).toNat < L.length := by
        rw [vals_length] at hm0 hm1
        rw [vals_length]
        omega
      have hget : L[(m % ((vals L).length : Int)).toNat]? = some L[(m % ((vals L).length : Int)).toNat] := List.getElem?_eq_getElem hj
      generalize L[(m % ((vals L).length : Int)).toNat] = r at hget
      have hrm := mem_at hget
      refine ⟨he, vals L, _, .ref r.1, rfl, rfl, SqL.of (s2 _ _ hhe), at_of (by omega) (vals_get hget), ?_⟩
      refine join_rd hfo hA (s2 _ _ (hL r hrm)) (by omega) (by have := good_len (hgood r hrm); omega) (fun H3 s3 _ => ?_) (fun H3 fo' s3 hfo' h0 hall => ?_)
      · exact ⟨fo, _, _, A, rfl, s2.trans s3, s3 _ _ hfo, hA.same s3, by omega, hc⟩
      · exact ⟨fo', _, _, _, rfl, s2.trans s3, hfo', (hA.same s3).append (Rws.one (s3 _ _ (s2 _ _ (hL r hrm)))), by rw [List.length_append]; show _ + 1 ≤ _; omega, hc.snoc (hgood r hrm) h0 hall⟩
    · obtain ⟨fo, y4, y5, A, e1, s2, hfo, hA, hAl, hc⟩ := hP
      subst e1
      have hAl' : A.length ≤ L.length := by
        have : ((vals L).length : Int).toNat = L.length := by rw [vals_length]; omega
        rw [this] at hAl
        exact hAl
      refine ⟨_, rfl, he, rfl, ⟨_, SqL.of (s2 _ _ hhe)⟩, for_it (walk_list (xs := vals L)) (fun i σ H' => ∃ (fo : Addr) (y4 y5 : Option V) (A : List Row), σ = [some (.int n), some (.int c), some (.ref fo), some (.ref he), y4, y5, none] ∧ Same H1 H' ∧ H' fo = some (.lst (vals A)) ∧ Rws H' A ∧ A.length ≤ L.length + ((sets (L.take i)).filter fun s => decide (s ≠ [])).length ∧ Chosen n A ∧
          ∀ s ∈ sets (L.take i), s ≠ [] → (∀ r ∈ A, meetB s r.2 = true) → s ∈ sets A)
        ⟨fo, _, _, A, rfl, s2, hfo, hA, by rw [List.take_zero]; exact hAl', hc, fun s hs => by rw [List.take_zero] at hs; cases hs⟩ (fun i σ H' _ ⟨_, _, _, _, _, e, _⟩ => SqL.of (e _ _ hhe)) (fun i x σ H' H2 hi hP hy => ?_) (fun σ H' hP => ?_)⟩
      · obtain ⟨fo, y4, y5, A, e1, s2, hfo, hA, hAl, hc, hmx⟩ := hP
        obtain ⟨rfl, hx⟩ := hy
        subst e1
        obtain ⟨r, hr1, rfl⟩ := vals_at hx
        have hrm := mem_at hr1
        have htk : sets (L.take (i + 1)) = sets (L.take i) ++ [r.2] := by rw [take_at hr1, sets_append]; rfl
        have hfl : ((sets (L.take i)).filter fun s => decide (s ≠ [])).length ≤ L.length := by
          refine Nat.le_trans (List.length_filter_le _ _) ?_
          rw [sets_length, List.length_take]
          exact Nat.min_le_right _ _
        refine join_rd hfo hA (s2 _ _ (hL r hrm)) (by omega) (by have := good_len (hgood r hrm); omega) (fun H3 s3 hno => ?_) (fun H3 fo' s3 hfo' h0 hall => ?_)
        · refine ⟨fo, _, _, A, rfl, s2.trans s3, s3 _ _ hfo, hA.same s3, ?_, hc, fun s hs h0 hall => ?_⟩
          · rw [htk, List.filter_append, List.length_append]
            omega
          · rw [htk] at hs
            rcases List.mem_append.mp hs with z | z
            · exact hmx s z h0 hall
            · rw [List.mem_singleton.mp z] at h0 hall
              rcases hno with e | ⟨t, ht, e⟩
              · exact absurd e h0
              · rw [hall t ht] at e
                cases e
        · refine ⟨fo', _, _, _, rfl, s2.trans s3, hfo', (hA.same s3).append (Rws.one (s3 _ _ (s2 _ _ (hL r hrm)))), ?_, hc.snoc (hgood r hrm) h0 hall, fun s hs hs0 hsall => ?_⟩
          · rw [htk, List.filter_append, List.length_append, List.length_append, List.filter_cons_of_pos (by simpa using h0)]
            show _ + 1 ≤ _ + (_ + 1)
            omega
          · rw [htk] at hs
            rw [sets_append]
            rcases List.mem_append.mp hs with z | z
            · exact List.mem_append_left _ (hmx s z hs0 fun t ht => hsall t (List.mem_append_left _ ht))
            · rw [List.mem_singleton.mp z]
              exact List.mem_append_right _ (List.mem_singleton.mpr rfl)
      · obtain ⟨fo, y4, y5, A, e1, s2, hfo, hA, hAl, hc, hmx⟩ := hP
        subst e1
        rw [vals_length, List.take_length] at hAl hmx
        have hlt : ((sets L).filter fun s => decide (s ≠ [])).length < (sets L).length := List.length_filter_lt_length_iff_exists.mpr ⟨[], hperm.mem_iff.mpr (mem_powL.mpr ⟨List.Pairwise.nil, fun x hx => by cases hx⟩), by simp⟩
        rw [sets_length] at hlt
        refine ⟨_, rfl, fo, A, rfl, hfo, hA, by omega, fun z L2 nz hsub hcov => ?_⟩
        have hL2 : Rws H' L2 := hA.sub hsub
        refine ⟨z, L2, rfl, upd_same, hL2.same (same_upd nz), fun r hr1 => ?_, fun L3 p hp hnd _ hs np => ?_⟩
        · exact ne_nil_of_meet (hc.meet r (hsub r hr1) r (hsub r hr1))
        · refine ⟨p, vals L3, rfl, .inl ⟨SqL.of upd_same, fun u nu => ?_⟩⟩
          have s3 := ((same_upd (o := SetTO P w z L2) nz).trans (same_upd (o := .lst (vals L3)) np)).trans (same_upd (o := .tup (vals L3)) nu)
          have h3A : ∀ r ∈ L3, r ∈ A := fun r hr1 => hsub r (hp.mem_iff.mp hr1)
          have hA3 : ∀ s, s ∈ sets A → s ∈ sets L3 := fun s hs1 => by
            obtain ⟨b, hb⟩ := mem_sets.mp hs1
            obtain ⟨b', hb'⟩ := mem_sets.mp (hcov _ hb)
            exact mem_sets.mpr ⟨b', hp.mem_iff.mpr hb'⟩
          refine q _ u L3 ((s01.trans s2).trans s3) ⟨hn1, hn5, upd_same, (hL2.same s3).sub fun r hr1 => hp.mem_iff.mp hr1, ?_⟩
          refine full_of_max (by omega) (srt_of hs hnd) (fun t ht => ?_) (fun t ht v hv => ?_) fun t g ht0 hall => ?_
          · obtain ⟨b, hb⟩ := mem_sets.mp ht
            exact hc.good _ (h3A _ hb)
          · obtain ⟨b, hb⟩ := mem_sets.mp ht
            obtain ⟨b', hb'⟩ := mem_sets.mp hv
            exact hc.meet _ (h3A _ hb) _ (h3A _ hb')
          · exact hA3 t (hmx t (hperm.mem_iff.mpr (mem_powL.mpr g)) ht0 fun r hr1 => hall _ (hA3 _ (mem_sets.mpr ⟨r.1, hr1⟩)))
end
end MS

/-! _law_led. -/
namespace MS
open PySem PySem.Spec PyProof.Rows L2
section
variable {P : Program} {w : World} {K : PySem.W.Frag} {mg : Str → Option Value} {base : Heap}
theorem sc_l_led : FnScope ["_law_n", "_law_family", "_law_steps", "_law_here", "_law_one", "_law_other"] ["_law_n", "_law_family", "_law_steps"] (defScope s_l_led) := ⟨rfl, rfl, rfl, by decide +kernel, rfl, by decide +kernel, by decide +kernel⟩
def sp_l_led : Sp := fun vs H Q _ => ∃ (n : Nat) (a d : Addr) (L : List Row) (G : List S) (Z : List Row), vs = [.int n, .ref a, .ref d] ∧ FamR n H a L ∧ Full n G ∧ H d = some (.lst (vals Z)) ∧ Rws H Z ∧ sets Z = steps (sets L) G ∧ ∀ H' p R, Same H H' → H' p = some (.tup (vals R)) → Rws H' R → sets R = G → Q (.ref p) H'
theorem ok_l_led {f : Addr} {fd : FuncData} (F : Fun K "_law_led" "_law_led" s_l_led f fd) (B : Blt mg) (c1 : Cal P w K mg base 1 "_law_lies" ["_law_one", "_law_other"] sp_l_lies) (c2 : Cal P w K mg base 1 "_law_rest" ["_law_n", "_law_one"] sp_other_points) :
    FnOk P w K mg base CX0 2 f fd ["_law_n", "_law_family", "_law_steps"] sp_l_led := by
  refine F.ok sc_l_led (fun vs H Q E h => ?_) (fun cdv A0 outer s H vs Q E hr h => ?_)
  · obtain ⟨n, a, d, L, G, Z, rfl, _⟩ := h
    rfl
  · obtain ⟨n, a, d, L, G, Z, rfl, hF, hG, hd, hZ, hst, q⟩ := h
    have nd := sc_l_led.nd
    refine ⟨_, pss_cons (ps_set (i := 3) nd rfl (.inl rfl) (pe_callTy call_list_of (by rfl) B.lst boot_list (pa_cons (pv 1) pa_nil)))
      (pss_cons (ps_for PassesOwn.never rfl (pi_list (pv 2)) (pg_name (i := 4) nd rfl (.inr rfl))
        (pss_cons (ps_if (PW.pt (pw_or (pt_cmpR (op_notInR (hu65 hr)) (pv 4) (pv 3) (by rfl)) (pw_or1 (pt_cmpR op_ne (pe_callB call_len_seq (by rfl) B.len PySem.boot_len (pa_cons (pe_lc (own := [("_law_other", 5)]) (g := gName 5) rfl nd (pi_list (pv 3))
            (blkOk_by (own := [("_law_other", 5)]) (N := ["_law_n", "_law_family", "_law_steps", "_law_here", "_law_one", "_law_other"]) (sc := defScope s_l_led) (by decide +kernel)) (fun _ _ _ _ _ => pg_name (i := 5) nd rfl (.inl rfl)) (fun _ _ _ _ _ => pts_one (pt_val (pe_cal c1 hr (pa_cons (pv 5) (pa_cons (pv 4) pa_nil))))) (fun _ _ _ _ _ => pv 5)) pa_nil)) pe_int (nomark _)))))
          pss_never pss_nil)
        (pss_one (ps_set (i := 3) nd rfl (.inl rfl) (pe_op op_cat (pe_lc (own := [("_law_other", 5)]) (g := gName 5) rfl nd (pi_list (pv 3))
            (blkOk_by (own := [("_law_other", 5)]) (N := ["_law_n", "_law_family", "_law_steps", "_law_here", "_law_one", "_law_other"]) (sc := defScope s_l_led) (by decide +kernel)) (fun _ _ _ _ _ => pg_name (i := 5) nd rfl (.inl rfl)) (fun _ _ _ _ _ => pts_one (pt_cmpR (r := rEqR true) (op_neR (hu64 hr)) (pv 5) (pv 4) (by rfl))) (fun _ _ _ _ _ => pv 5))
          (pe_lst (pa_cons (pe_cal c2 hr (pa_cons (pv 0) (pa_cons (pv 4) pa_nil))) pa_nil)))))))
      (pss_one (ps_ret (pe_callTy call_tuple_of (by rfl) B.tup boot_tuple (pa_cons (pe_callB (cr_sortR (hu3 hr)) (by rfl) B.srt boot_sorted (pa_cons (pv 3) pa_nil)) pa_nil))))), ?_⟩
    refine ⟨_, rfl, a, vals L, rfl, .inr (SqT.of hF.at_), fun l nl => ?_⟩
    have s1 := same_upd (o := .lst (vals L)) nl
    refine ⟨.ref d, rfl, d, rfl, ⟨_, SqL.of (s1 _ _ hd)⟩, for_it (walk_list (xs := vals Z)) (fun i σ H' => ∃ (c : Addr) (y : Option V) (Lh : List Row), σ = [some (.int n), some (.ref a), some (.ref d), some (.ref c), y, none] ∧ Same H H' ∧ H' c = some (.lst (vals Lh)) ∧ Rws H' Lh ∧ Here n (sets L) ((steps (sets L) G).take i) (sets Lh))
      ⟨l, none, L, rfl, s1, upd_same, hF.rws.same s1, by rw [List.take_zero]; exact Here.start hF.full⟩ (fun i σ H' _ ⟨_, _, _, _, e, _⟩ => SqL.of (e _ _ hd)) (fun i x σ H' H2 hi hP hy => ?_) (fun σ H' hP => ?_)⟩
    · obtain ⟨c, y, Lh, e1, s2, hc, hLh, hH⟩ := hP
      obtain ⟨rfl, hx⟩ := hy
      subst e1
      obtain ⟨r, hr1, rfl⟩ := vals_at hx
      have hro : (steps (sets L) G)[i]? = some r.2 := by rw [← hst]; exact sets_get hr1
      obtain ⟨g1, g2, g3, g4, g5, g6, g7⟩ := steps_at hF.full hG hro hH
      have hrR := (hZ.same s2) r (mem_at hr1)
      have hll : Lh.length ≤ 32 := by rw [← sets_length]; exact here_len hF.full hF.hi hH
      have hgood : ∀ t ∈ Lh, t.2.length ≤ 1000 := fun t ht => by
        have := good_len (hH.good hF.full t.2 (mem_sets.mpr ⟨t.1, ht⟩))
        have := hF.hi
        omega
      refine ⟨_, rfl, _, rfl, r.1, c, r.2, Lh, rfl, hrR, rfl, .inl hc, hLh, _, rfl, ?_⟩
      rw [if_pos rfl, decide_eq_true g2]
      refine iteF ⟨.ref c, rfl, c, rfl, ⟨_, SqL.of hc⟩, fun D2 hD2 => filt_lc (walk_list (xs := vals Lh)) (fun H' e => SqL.of (e _ _ hc)) hD2 hLh (by omega) (fun t => subB t r.2) (fun _ => rfl) (fun _ => rfl) (fun u hu1 H4 K2 s4 k4 => ?_) fun H4 s4 hD4 => ?_⟩
      · exact ⟨_, rfl, _, rfl, u.1, r.1, u.2, r.2, rfl, s4 _ _ (hLh u hu1), s4 _ _ hrR, hgood u hu1, fun H5 s5 => ⟨_, rfl, k4 H5 s5⟩⟩
      · have hl1 : (Lh.filter fun t => subB t.2 r.2).length = 1 := by
          have := congrArg List.length (show sets (Lh.filter fun t => subB t.2 r.2) = [r.2] by rw [sets_filter Lh fun t => subB t r.2]; exact g3)
          rw [sets_length] at this
          exact this
        refine ⟨D2, _, rfl, .inl (SqL.of hD4), rfl, _, rfl, ?_⟩
        have hd1 : (!decide (V.int ((vals (Lh.filter fun t => subB t.2 r.2)).length : Int) = V.int 1)) = false := by
          rw [vals_length, hl1]
          rfl
        rw [hd1]
        have hrR4 := s4 _ _ hrR
        have hLh4 := hLh.same s4
        refine iteF ⟨.ref c, rfl, c, rfl, ⟨_, SqL.of (s4 _ _ hc)⟩, fun D3 hD3 => filt_lc (walk_list (xs := vals Lh)) (fun H' e => SqL.of (e _ _ (s4 _ _ hc))) hD3 hLh4 (by omega) (fun t => decide (t ≠ r.2)) (fun _ => rfl) (fun _ => rfl) (fun u hu1 H5 Kk s5 kk => ?_) fun H5 s5 hD5 => ?_⟩
        · refine ⟨_, rfl, _, rfl, u.1, r.1, u.2, r.2, rfl, s5 _ _ (hLh4 u hu1), rfl, s5 _ _ hrR4, _, rfl, ?_⟩
          have e : (!decide (u.2 = r.2)) = decide (u.2 ≠ r.2) := by
            by_cases h : u.2 = r.2 <;> simp [h]
          rw [if_pos rfl, e]
          exact kk H5 (Same.refl _)
        · refine ⟨_, rfl, _, rfl, n, r.1, r.2, rfl, s5 _ _ hrR4, hF.hi, fun H6 p s6 hp => ⟨by show 1 ≤ sizeLine; decide, fun v nv => ?_⟩⟩
          have s7 := same_upd (o := .lst [V.ref p]) nv
          refine ⟨D3, v, vals (Lh.filter fun t => decide (t.2 ≠ r.2)), [.ref p], rfl, rfl, s7 _ _ (s6 _ _ hD5), upd_same, ?_, fun u nu => ?_⟩
          · have := List.length_filter_le (fun t : Row => decide (t.2 ≠ r.2)) Lh
            rw [vals_length]
            show _ + 1 ≤ sizeLine
            exact Nat.le_of_lt (small1000 (by omega))
          · have s8 := same_upd (o := .lst (vals (Lh.filter fun t => decide (t.2 ≠ r.2)) ++ [V.ref p])) nu
            have st := s4.trans (s5.trans (s6.trans (s7.trans s8)))
            refine ⟨u, _, (Lh.filter fun t => decide (t.2 ≠ r.2)) ++ [(p, compl n r.2)], rfl, s2.trans st, by rw [upd_same, vals_append]; rfl, ((hLh.same st).sub fun t ht => (List.mem_filter.mp ht).1).append (Rws.one (s8 _ _ (s7 _ _ hp))), ?_⟩
            rw [sets_append, sets_filter Lh fun t => decide (t ≠ r.2)]
            exact g7
    · obtain ⟨c, y, Lh, e1, s2, hc, hLh, hH⟩ := hP
      subst e1
      have hl : (vals Z).length = (steps (sets L) G).length := by rw [vals_length, ← sets_length, hst]
      rw [hl] at hH
      have hm := steps_done hF.full hG hH
      have hll : Lh.length ≤ 32 := by rw [← sets_length]; exact here_len hF.full hF.hi hH
      refine ⟨_, rfl, c, Lh, rfl, hc, hLh, .inl fun r hr1 => hG.ne ((hm r.2).mp (mem_sets.mpr ⟨r.1, hr1⟩)), by omega, fun R p hp hs np => ⟨p, vals R, rfl, .inl ⟨SqL.of upd_same, fun u nu => ?_⟩⟩⟩
      have s3 := (same_upd (o := .lst (vals R)) np).trans (same_upd (o := .tup (vals R)) nu)
      refine q _ u R (s2.trans s3) upd_same ((hLh.same s3).sub fun r hr1 => hp.mem_iff.mp hr1) ?_
      refine srt_ext (srt_of hs ((hp.map (fun r : Row => r.2)).nodup_iff.mpr hH.nd)) hG.srt fun x => ?_
      rw [← hm x]
      exact (hp.map (fun r : Row => r.2)).mem_iff
end
end MS

/-! law. -/
namespace MS
open PySem PySem.Spec PyProof.Rows L2
section
variable {P : Program} {w : World} {K : PySem.W.Frag} {mg : Str → Option Value} {base : Heap}
theorem FamR.kt {n : Nat} {H H' : Hp} {a : Addr} {L : List Row} (h : FamR n H a L) (e : KT H H') : FamR n H' a L := ⟨h.lo, h.hi, e _ _ h.at_, h.rws.kt e, h.full⟩
theorem sc_law : FnScope ["_law_script", "_law_n", "_law_family", "_law_other", "_law_turn", "_law_found", "_law_one", "_law_point"] ["_law_script"] (defScope s_law) := ⟨rfl, rfl, rfl, by decide +kernel, rfl, by decide +kernel, by decide +kernel⟩
def sp_law (K : PySem.W.Frag) : Sp := fun vs H Q _ => ∃ (a : Addr) (ns : List Int), vs = [.ref a] ∧ SqL K H a (ns.map V.int) ∧ ns.length ≤ 63 ∧ ∀ H', Q (.bl true) H'
theorem all_true : ∀ {bs : List Bool}, (∀ b ∈ bs, b = true) → bs.all id = true := fun {bs} h => List.all_eq_true.mpr fun b hb => h b hb
theorem ok_law {f : Addr} {fd : FuncData} (F : Fun K "law" "law" s_law f fd) (B : Blt mg) (c1 : Cal P w K mg base 1 "_law_cell_at" ["_law_script", "_law_k"] (sp_l_cell_at K)) (c2 : Cal P w K mg base 2 "_law_full_by" ["_law_n", "_law_cell"] sp_l_full_by)
    (c3 : Cal P w K mg base 8 "swaps_to" ["n", "family", "other"] sp_swaps_to) (c4 : Cal P w K mg base 1 "_law_sets" ["_law_n"] sp_l_sets) (c5 : Cal P w K mg base 1 "_law_whole" ["_law_found"] sp_is_whole)
    (c6 : Cal P w K mg base 2 "_law_led" ["_law_n", "_law_family", "_law_steps"] sp_l_led) (c7 : Cal P w K mg base 8 "swaps_hold" ["n", "family", "other", "thing"] sp_swaps_hold) : FnOk P w K mg base CX0 9 f fd ["_law_script"] (sp_law K) := by
  refine F.ok sc_law (fun vs H Q E h => ?_) (fun cdv A0 outer s H vs Q E hr h => ?_)
  · obtain ⟨a, ns, rfl, _⟩ := h
    rfl
  · obtain ⟨sa, ns, rfl, hS, hlen, q⟩ := h
    have nd := sc_law.nd
    refine ⟨_, pss_cons (ps_set (i := 1) nd rfl (.inl rfl) (pe_op op_add pe_int (pe_op op_mod (pe_cal c1 hr (pa_cons (pv 0) (pa_cons pe_int pa_nil))) pe_int)))
      (pss_cons (ps_set (i := 2) nd rfl (.inl rfl) (pe_cal c2 hr (pa_cons (pv 1) (pa_cons (pe_cal c1 hr (pa_cons (pv 0) (pa_cons pe_int pa_nil))) pa_nil))))
      (pss_cons (ps_set (i := 3) nd rfl (.inr rfl) (pe_cal c2 hr (pa_cons (pv 1) (pa_cons (pe_cal c1 hr (pa_cons (pv 0) (pa_cons pe_int pa_nil))) pa_nil))))
      (pss_cons (ps_if (pt_cmpR op_eq (pe_op op_mod (pe_cal c1 hr (pa_cons (pv 0) (pa_cons pe_int pa_nil))) pe_int) pe_int (nomark _)) (pss_one (ps_set (i := 3) nd rfl (.inr rfl) (pv 2))) pss_nil)
      (pss_cons (ps_for PassesOwn.never rfl (pi_range1 (by rfl) B.rng (pa_cons pe_int pa_nil)) (pg_name (i := 4) nd rfl (.inl rfl))
        (pss_cons (ps_set (i := 5) nd rfl (.inl rfl) (pe_cal c3 hr (pa_cons (pv 1) (pa_cons (pv 2) (pa_cons (pv 3) pa_nil)))))
        (pss_cons (ps_if (PW.pt (pw_or (pt_not (pt_val (pe_callB call_isi (by rfl) B.isi boot_isinstance (pa_cons (pv 5) (pa_cons (pe_bltn (v := .ty "list") (by rfl) B.lst boot_list rfl) pa_nil)))))
          (pw_or1 (pt_cmpR op_ne (pe_callB call_len_seq (by rfl) B.len PySem.boot_len (pa_cons (pv 5) pa_nil)) (pe_callB call_len_seq (by rfl) B.len PySem.boot_len (pa_cons (pe_lc (own := [("_law_one", 6)]) (g := gName 6) rfl nd (pi_tup (pv 2))
            (blkOk_by (own := [("_law_one", 6)]) (N := ["_law_script", "_law_n", "_law_family", "_law_other", "_law_turn", "_law_found", "_law_one", "_law_point"]) (sc := defScope s_law) (by decide +kernel)) (fun _ _ _ _ _ => pg_name (i := 6) nd rfl (.inl rfl)) (fun _ _ _ _ _ => pts_one (pt_cmpR (r := rInR true) (op_notInR (hu65 hr)) (pv 6) (pv 3) (by rfl))) (fun _ _ _ _ _ => pv 6)) pa_nil)) (by rfl))))) pss_never pss_nil)
        (pss_cons (ps_for PassesOwn.never rfl (pi_list (pv 5)) (pg_name (i := 6) nd rfl (.inl rfl))
          (pss_one (ps_if (PW.pt (pw_or (pt_not (pt_val (pe_callB call_isi (by rfl) B.isi boot_isinstance (pa_cons (pv 6) (pa_cons (pe_bltn (v := .ty "tuple") (by rfl) B.tup boot_tuple rfl) pa_nil)))))
            (pw_or (pt_cmpR (op_notInR (hu65 hr)) (pv 6) (pe_cal c4 hr (pa_cons (pv 1) pa_nil)) (by rfl))
            (pw_or1 (pt_not (pt_val (pe_callB (cr_all rfl) (by rfl) B.all (by decide +kernel) (pa_cons (pe_lc (own := [("_law_point", 7)]) (g := gName 7) (tt := tYes) rfl nd (pi_tup (pv 6))
              (blkOk_by (own := [("_law_point", 7)]) (N := ["_law_script", "_law_n", "_law_family", "_law_other", "_law_turn", "_law_found", "_law_one", "_law_point"]) (sc := defScope s_law) (by decide +kernel)) (fun _ _ _ _ _ => pg_name (i := 7) nd rfl (.inl rfl)) (fun _ _ _ _ _ => pts_nil) (fun _ _ _ _ _ => pe_cal c5 hr (pa_cons (pv 7) pa_nil))) pa_nil))))))))
            pss_never pss_nil)))
        (pss_cons (ps_if (PW.pt (pw_or (pt_cmpR (op_neF (hu64 hr)) (pe_cal c6 hr (pa_cons (pv 1) (pa_cons (pv 2) (pa_cons (pv 5) pa_nil)))) (pv 3) (by rfl))
          (pw_or1 (pt_cmpR op_isnot_bl (pe_cal c7 hr (pa_cons (pv 1) (pa_cons (pv 2) (pa_cons (pv 3) (pa_cons (pv 5) pa_nil))))) pe_bl (nomark _))))) pss_never pss_nil)
        (pss_cons (ps_expr (pe_bm PySem.F.plainAttrs_list PySem.F.slot_list_append PySem.F.type_list_append mt_append (pv 5) (pa_cons (pe_tup pa_nil) pa_nil)))
        (pss_one (ps_asg (pe_tup (pa_cons (pv 3) (pa_cons (pv 2) pa_nil))) (pg_tup rfl (pgs_cons (pg_name (i := 2) nd rfl (.inl rfl)) (pgs_cons (pg_name (i := 3) nd rfl (.inr rfl)) pgs_nil)))))))))))
      (pss_one (ps_ret pe_bl)))))), ?_⟩
    refine ⟨_, rfl, sa, ns, 0, rfl, hS, fun m => ?_⟩
    obtain ⟨k, hk⟩ : ∃ k : Nat, m % 4 = (k : Int) := ⟨(m % 4).toNat, by omega⟩
    have hk3 : k ≤ 3 := by omega
    refine ⟨m, 4, rfl, rfl, pos_mod (i := 0) (by decide), 2, (k : Int), rfl, congrArg V.int hk, ?_⟩
    refine ⟨_, rfl, _, rfl, sa, ns, 1, rfl, hS, fun m2 => ⟨2 + k, m2, rfl, by omega, by omega, fun H1 a L s1 hF => ?_⟩⟩
    refine ⟨_, rfl, _, rfl, sa, ns, 2, rfl, s1.seq hS, fun m3 => ⟨2 + k, m3, rfl, by omega, by omega, fun H2 b M s2 hG => ?_⟩⟩
    have hF2 := hF.same s2
    refine ⟨_, rfl, sa, ns, 3, rfl, (s1.trans s2).seq hS, fun m4 => ⟨m4, 4, rfl, rfl, pos_mod (i := 0) (by decide), rfl, _, rfl, ite2 (fun _ => ⟨_, rfl, ?_⟩) (fun _ => ?_)⟩⟩
    all_goals
      refine ⟨2, rfl, by decide, by decide, for_it walk_range (fun t σ H' => ∃ (a b : Addr) (L M : List Row) (y4 y5 y6 : Option V), σ = [some (.ref sa), some (.int ((2 + k : Nat) : Int)), some (.ref a), some (.ref b), y4, y5, y6, none] ∧ FamR (2 + k) H' a L ∧ FamR (2 + k) H' b M) ?_ (fun _ _ _ _ _ => trivial) (fun t x σ H' H3 ht hP hy => ?_) (fun σ H' _ => q H')⟩
    · exact ⟨a, a, L, L, none, none, none, rfl, hF2, hF2⟩
    rotate_left
    · exact ⟨a, b, L, M, none, none, none, rfl, hF2, hG⟩
    all_goals
      clear hF hG hF2 s1 s2
      obtain ⟨a, b, L, M, y4, y5, y6, e1, hF, hG⟩ := hP
      obtain ⟨rfl, rfl⟩ := hy
      subst e1
      -- found = swaps_to(n, family, other)
      refine ⟨_, rfl, _, rfl, _, rfl, 2 + k, a, b, L, M, rfl, hF, hG, fun H4 d Z s4 nd4 hd hZ hst => ?_⟩
      have hF4 := hF.same s4
      have hG4 := hG.same s4
      have hZl : Z.length = (L.filter fun r => decide (r.2 ∉ sets M)).length := by
        have h1 := congrArg List.length hst
        rw [sets_length, (steps_perm hF.full).length_eq] at h1
        have h2 := congrArg List.length (sets_filter L fun t => decide (t ∉ sets M))
        rw [sets_length] at h2
        rw [h1, h2]
        rfl
      have hZ16 : Z.length ≤ 16 := by
        have h1 := hF.len
        have h2 := List.length_filter_le (fun r : Row => decide (r.2 ∉ sets M)) L
        omega
      have hZg : ∀ r ∈ Z, MS.good (2 + k) r.2 := fun r hr1 => hF.full.good r.2 ((steps_mem hF.full).mp (by rw [← hst]; exact mem_sets.mpr ⟨r.1, hr1⟩)).1
      -- not a list, or not as many
      refine ⟨.ref d, rfl, .ref d, .ty "list", _, _, true, rfl, .ty "list", .base (.lst hd), kit_ty (by decide +kernel), true, rfl, iteF ?_⟩
      refine ⟨_, rfl, d, _, rfl, .inl (SqL.of hd), .ref a, rfl, a, rfl, ⟨_, SqT.of hF4.at_⟩, fun D hD => filt_lc (walk_tup (xs := vals L)) (fun H' e => SqT.of (e _ _ hF4.at_)) hD hF4.rws (by have := hF.len; omega) (fun t => decide (t ∉ sets M)) (fun _ => rfl) (fun _ => rfl) (fun r hr1 H5 Kk s5 kk => ?_) fun H5 s5 hD5 => ?_⟩
      · have hG5 := hG4.same s5
        refine ⟨_, rfl, _, rfl, r.1, b, r.2, M, rfl, s5 _ _ (hF4.rws r hr1), rfl, .inr hG5.at_, hG5.rws, _, rfl, ?_⟩
        have e : (!decide (r.2 ∈ sets M)) = decide (r.2 ∉ sets M) := by
          by_cases h : r.2 ∈ sets M <;> simp [h]
        rw [if_pos rfl, e]
        exact kk H5 (Same.refl _)
      · refine ⟨D, _, rfl, .inl (SqL.of hD5), rfl, _, rfl, ?_⟩
        have hne : (!decide (V.int ((vals Z).length : Int) = V.int ((vals (L.filter fun r => decide (r.2 ∉ sets M))).length : Int))) = false := by
          rw [vals_length, vals_length, hZl, decide_eq_true rfl]
          rfl
        rw [hne]
        have hd5 := s5 _ _ hd
        have hZ5 := hZ.same s5
        have hF5 := hF4.same s5
        have hG5 := hG4.same s5
        -- for one in found
        refine iteF ⟨_, rfl, d, rfl, ⟨_, SqL.of hd5⟩, for_it (walk_list (xs := vals Z)) (fun i σ H' => ∃ y6 : Option V, σ = [some (.ref sa), some (.int ((2 + k : Nat) : Int)), some (.ref a), some (.ref b), some (.int (0 + (t : Int))), some (.ref d), y6, none] ∧ Same H5 H') ⟨y6, rfl, Same.refl _⟩ (fun i σ H' _ ⟨_, _, e⟩ => SqL.of (e _ _ hd5)) (fun i x σ H' H6 hi hP hy => ?_) (fun σ H' hP => ?_)⟩
        · obtain ⟨y6, e1, s6⟩ := hP
          obtain ⟨rfl, hx⟩ := hy
          subst e1
          obtain ⟨r, hr1, rfl⟩ := vals_at hx
          have hrm := mem_at hr1
          have hr6 : IsR H6 r.1 r.2 := s6 _ _ (hZ5 r hrm)
          refine ⟨_, rfl, .ref r.1, .ty "tuple", _, _, true, rfl, .ty "tuple", .base (.tup hr6), kit_ty (by decide +kernel), true, rfl, iteF ?_⟩
          refine ⟨_, rfl, _, rfl, 2 + k, rfl, by omega, fun H7 p L7 s7 np hp hL7 hperm => ⟨r.1, p, r.2, L7, rfl, s7 _ _ hr6, rfl, .inl hp, hL7, _, rfl, ?_⟩⟩
          have hin : r.2 ∈ sets L7 := hperm.mem_iff.mpr (mem_powL.mpr (hZg r hrm))
          rw [if_pos rfl, decide_eq_true hin]
          have hr7 := s7 _ _ hr6
          refine iteF ⟨_, rfl, r.1, rfl, ⟨_, SqT.of hr7⟩, fun D2 hD2 => lc_gen (γ := Bool) (walk_tup (xs := r.2.map V.int)) V.bl (fun _ _ => True) (fun _ cs => ∀ c ∈ cs, c = true) hD2 (by rw [List.length_map]; have := good_len (hZg r hrm); omega) (fun H' e => SqT.of (e _ _ hr7)) (fun _ _ _ _ h => h) (fun c hc => by cases hc) (fun j x H8 H9 cs Nx hj hS8 hDl hok hf hy drop keep => ?_) fun H8 cs hS8 hDl hok hf => ?_⟩
          · obtain ⟨rfl, hx⟩ := hy
            obtain ⟨u, hu, rfl⟩ := ints_at hx
            refine ⟨rfl, tyes ⟨_, rfl, u, rfl, keep true H9 (Same.refl _) trivial fun c hc => ?_⟩⟩
            rcases List.mem_append.mp hc with z | z
            · exact hf c z
            · exact List.mem_singleton.mp z
          · refine ⟨D2, cs, rfl, SqL.of hDl, _, rfl, ?_⟩
            rw [all_true hf]
            exact iteF ⟨_, rfl, s6.trans (s7.trans hS8)⟩
        · obtain ⟨y6, e1, s6⟩ := hP
          subst e1
          have hd6 := s6 _ _ hd5
          have hZ6 := hZ5.same s6
          have hF6 := hF5.same s6
          have hG6 := hG5.same s6
          -- led, hold
          refine ⟨_, rfl, _, rfl, _, rfl, 2 + k, a, d, L, sets M, Z, rfl, hF6, hG6.full, hd6, hZ6, hst, fun H7 p R s7 hp hR hRM => ?_⟩
          have hF7 := hF6.same s7
          have hG7 := hG6.same s7
          refine ⟨_, rfl, p, b, R, M, rfl, rfl, .inr ⟨hp, hG7.at_⟩, hR, hG7.rws, _, rfl, ?_⟩
          rw [if_pos rfl, decide_eq_true hRM]
          refine iteF ⟨_, rfl, _, rfl, _, rfl, _, rfl, 2 + k, a, b, d, L, M, Z, rfl, hF7, hG7, s7 _ _ hd6, hZ6.same s7, hst, fun H8 s8 => ⟨true, true, rfl, rfl, _, rfl, iteF ?_⟩⟩
          have hd8 := s8 _ _ (s7 _ _ hd6)
          -- found.append(())
          refine ⟨_, rfl, .inl ⟨rfl, _, .inl (.inl hd8)⟩, Nat.zero_le _, fun e ne => ?_⟩
          have s9 := same_upd (o := .tup []) ne
          refine ⟨d, vals Z, .ref e, rfl, rfl, s9 _ _ hd8, by rw [vals_length]; exact small1000 (by omega), ?_⟩
          have k10 : KT (upd H8 e (.tup [])) (upd (upd H8 e (.tup [])) d (.lst (vals Z ++ [V.ref e]))) := KT.upd (s9 _ _ hd8)
          -- family, other = other, family
          refine ⟨_, rfl, _, rfl, by show 2 ≤ sizeLine; decide, fun t nt => ⟨t, [.ref b, .ref a], rfl, SqT.of upd_same, rfl, .ref b, [.ref a], rfl, .ref a, [], rfl, rfl, ?_⟩⟩
          have s11 := same_upd (o := .tup [V.ref b, V.ref a]) nt
          exact ⟨b, a, M, L, _, _, _, rfl, ((((hG7.same s8).same s9).kt k10).same s11), ((((hF7.same s8).same s9).kt k10).same s11)⟩
end
end MS

set_option maxHeartbeats 0
/-! The end: the top by one kernel run, the facts by names, the defs joined. -/
namespace MS
open PySem PySem.Spec PyProof.Rows L2

def d_is_whole : He.FnD := ⟨("is_whole", none), "is_whole", "is_whole", defArgs s_is_whole, defBody s_is_whole, defScope s_is_whole⟩
def d_is_from : He.FnD := ⟨("is_from", none), "is_from", "is_from", defArgs s_is_from, defBody s_is_from, defScope s_is_from⟩
def d_ground_good : He.FnD := ⟨("ground_good", none), "ground_good", "ground_good", defArgs s_ground_good, defBody s_ground_good, defScope s_ground_good⟩
def d_set_good : He.FnD := ⟨("set_good", none), "set_good", "set_good", defArgs s_set_good, defBody s_set_good, defScope s_set_good⟩
def d_first_flaw : He.FnD := ⟨("first_flaw", none), "first_flaw", "first_flaw", defArgs s_first_flaw, defBody s_first_flaw, defScope s_first_flaw⟩
def d_need_ground : He.FnD := ⟨("need_ground", none), "need_ground", "need_ground", defArgs s_need_ground, defBody s_need_ground, defScope s_need_ground⟩
def d_need_family : He.FnD := ⟨("need_family", none), "need_family", "need_family", defArgs s_need_family, defBody s_need_family, defScope s_need_family⟩
def d_lies_in : He.FnD := ⟨("lies_in", none), "lies_in", "lies_in", defArgs s_lies_in, defBody s_lies_in, defScope s_lies_in⟩
def d_share_point : He.FnD := ⟨("share_point", none), "share_point", "share_point", defArgs s_share_point, defBody s_share_point, defScope s_share_point⟩
def d_in_order : He.FnD := ⟨("in_order", none), "in_order", "in_order", defArgs s_in_order, defBody s_in_order, defScope s_in_order⟩
def d_sets_below : He.FnD := ⟨("sets_below", none), "sets_below", "sets_below", defArgs s_sets_below, defBody s_sets_below, defScope s_sets_below⟩
def d_other_points : He.FnD := ⟨("other_points", none), "other_points", "other_points", defArgs s_other_points, defBody s_other_points, defScope s_other_points⟩
def d_need_both : He.FnD := ⟨("need_both", none), "need_both", "need_both", defArgs s_need_both, defBody s_need_both, defScope s_need_both⟩
def d_least_among : He.FnD := ⟨("least_among", none), "least_among", "least_among", defArgs s_least_among, defBody s_least_among, defScope s_least_among⟩
def d_first_clash : He.FnD := ⟨("first_clash", none), "first_clash", "first_clash", defArgs s_first_clash, defBody s_first_clash, defScope s_first_clash⟩
def d_is_full : He.FnD := ⟨("is_full", none), "is_full", "is_full", defArgs s_is_full, defBody s_is_full, defScope s_is_full⟩
def d_need_full : He.FnD := ⟨("need_full", none), "need_full", "need_full", defArgs s_need_full, defBody s_need_full, defScope s_need_full⟩
def d_with_opposite : He.FnD := ⟨("with_opposite", none), "with_opposite", "with_opposite", defArgs s_with_opposite, defBody s_with_opposite, defScope s_with_opposite⟩
def d_need_two_full : He.FnD := ⟨("need_two_full", none), "need_two_full", "need_two_full", defArgs s_need_two_full, defBody s_need_two_full, defScope s_need_two_full⟩
def d_first_least : He.FnD := ⟨("first_least", none), "first_least", "first_least", defArgs s_first_least, defBody s_first_least, defScope s_first_least⟩
def d_swaps_to : He.FnD := ⟨("swaps_to", none), "swaps_to", "swaps_to", defArgs s_swaps_to, defBody s_swaps_to, defScope s_swaps_to⟩
def d_swaps_hold : He.FnD := ⟨("swaps_hold", none), "swaps_hold", "swaps_hold", defArgs s_swaps_hold, defBody s_swaps_hold, defScope s_swaps_hold⟩
def d_l_sets : He.FnD := ⟨("_law_sets", none), "_law_sets", "_law_sets", defArgs s_l_sets, defBody s_l_sets, defScope s_l_sets⟩
def d_l_stir : He.FnD := ⟨("_law_stir", none), "_law_stir", "_law_stir", defArgs s_l_stir, defBody s_l_stir, defScope s_l_stir⟩
def d_l_share : He.FnD := ⟨("_law_share", none), "_law_share", "_law_share", defArgs s_l_share, defBody s_l_share, defScope s_l_share⟩
def d_l_lies : He.FnD := ⟨("_law_lies", none), "_law_lies", "_law_lies", defArgs s_l_lies, defBody s_l_lies, defScope s_l_lies⟩
def d_l_rest : He.FnD := ⟨("_law_rest", none), "_law_rest", "_law_rest", defArgs s_l_rest, defBody s_l_rest, defScope s_l_rest⟩
def d_l_cell_at : He.FnD := ⟨("_law_cell_at", none), "_law_cell_at", "_law_cell_at", defArgs s_l_cell_at, defBody s_l_cell_at, defScope s_l_cell_at⟩
def d_l_whole : He.FnD := ⟨("_law_whole", none), "_law_whole", "_law_whole", defArgs s_l_whole, defBody s_l_whole, defScope s_l_whole⟩
def d_l_full_by : He.FnD := ⟨("_law_full_by", none), "_law_full_by", "_law_full_by", defArgs s_l_full_by, defBody s_l_full_by, defScope s_l_full_by⟩
def d_l_led : He.FnD := ⟨("_law_led", none), "_law_led", "_law_led", defArgs s_l_led, defBody s_l_led, defScope s_l_led⟩
def d_law : He.FnD := ⟨("law", none), "law", "law", defArgs s_law, defBody s_law, defScope s_law⟩
def fn : List He.FnD := [d_is_whole, d_is_from, d_ground_good, d_set_good, d_first_flaw, d_need_ground, d_need_family, d_lies_in, d_share_point, d_in_order, d_sets_below, d_other_points, d_need_both, d_least_among, d_first_clash, d_is_full, d_need_full, d_with_opposite, d_need_two_full, d_first_least, d_swaps_to, d_swaps_hold, d_l_sets, d_l_stir, d_l_share, d_l_lies, d_l_rest, d_l_cell_at, d_l_whole, d_l_full_by, d_l_led, d_law]
def fa : List He.Fa := [.glo "is_whole", .glo "is_from", .glo "ground_good", .glo "set_good", .glo "first_flaw", .glo "need_ground", .glo "need_family", .glo "lies_in", .glo "share_point", .glo "in_order", .glo "sets_below", .glo "other_points", .glo "need_both", .glo "least_among", .glo "first_clash", .glo "is_full", .glo "need_full", .glo "with_opposite", .glo "need_two_full", .glo "first_least", .glo "swaps_to", .glo "swaps_hold", .glo "_law_sets", .glo "_law_stir", .glo "_law_share", .glo "_law_lies", .glo "_law_rest", .glo "_law_cell_at", .glo "_law_whole", .glo "_law_full_by", .glo "_law_led", .glo "law", .keep "is_whole", .keep "is_from", .keep "ground_good", .keep "set_good", .keep "first_flaw", .keep "need_ground", .keep "need_family", .keep "lies_in", .keep "share_point", .keep "in_order", .keep "sets_below", .keep "other_points", .keep "need_both", .keep "least_among", .keep "first_clash", .keep "is_full", .keep "need_full", .keep "with_opposite", .keep "need_two_full", .keep "first_least", .keep "swaps_to", .keep "swaps_hold", .keep "_law_sets", .keep "_law_stir", .keep "_law_share", .keep "_law_lies", .keep "_law_rest", .keep "_law_cell_at", .keep "_law_whole", .keep "_law_full_by", .keep "_law_led", .keep "law", .free "isinstance", .free "int", .free "bool", .free "tuple", .free "list", .free "len", .free "range", .free "sorted", .free "dict", .free "enumerate", .free "set", .free "all", .int "MOST_POINTS" 8]
abbrev R : PySem.W.OpenRow := PySem.W.OpenLaw.row PySem.Challenge.rw_meetsets_k15_whole_swaps_lead_anywhere
abbrev hk : PySem.W.Hook := He.hookE 3 fa fn
def ob (s : PySem.W.SharedT) : He.Al := He.obsG 3 fa fn (HandSHeadRun.getT s)
theorem ob_eq (s : PySem.W.SharedT) : ob s = hk.obs s.abs := He.obsG_eq (HandSHeadRun.getT_eq s)
def loose1 : List PySem.Str := ["MeetError", "NoGround", "NotFull", "NoFamily", "MOST_POINTS", "is_whole", "is_from", "ground_good", "set_good", "first_flaw", "need_ground", "need_family", "lies_in", "share_point", "in_order", "sets_below", "other_points", "need_both"]
def loose2 : List PySem.Str := ["least_among", "first_clash", "is_full", "need_full", "with_opposite", "need_two_full", "first_least", "swaps_to", "swaps_hold", "_law_sets", "_law_stir", "_law_share", "_law_lies", "_law_rest", "_law_cell_at", "_law_whole", "_law_full_by", "_law_led"]
def loose : List PySem.Str := loose1 ++ loose2
theorem fun_of {K : PySem.W.Frag} {x : Str} {st : Stmt} (c : He.SaysE fa fn K) (i : Nat) (hi : fn[i]? = some ⟨(x, none), x, x, defArgs st, defBody st, defScope st⟩) (j : Nat) (hj : fa[j]? = some (.keep x)) : ∃ fd, Fun K x x st (He.ga K x) fd := by
  obtain ⟨oc, od, osl, kV, doc, pm, an, cdv, ct, l, cd⟩ := c.def_ i hi
  exact ⟨_, fun_mk l cd (c.fact j hj)⟩
theorem facts {P : Program} {w : World} {K : PySem.W.Frag} {h : Heap} {mg : Str → Option Value} {f : Addr} (X : K.In h) (G : h.Ns mainGlobals mg) (hfa : mg ("law" : Str) = some (.ref f)) (c : He.SaysE fa fn K) :
    ∃ fd : FuncData, (∀ (s : Shared) (v : Value), BindsTo s fd ⟨[v], []⟩ [("_law_script", v)]) ∧ ∀ base : Heap, K.In base → base.Ns mainGlobals mg → FnOk P w K mg base CX0 9 f fd ["_law_script"] (sp_law K) := by
  obtain ⟨fd0, F0⟩ := fun_of (x := "is_whole") (st := s_is_whole) c 0 rfl 32 rfl
  have g0 := He.glo_ok X G (x := "is_whole") (c.fact 0 rfl)
  have b0 := F0.binds (ps := ["thing"]) fun _ _ _ _ _ _ us hl => match us, hl with | [_], _ => rfl
  obtain ⟨fd1, F1⟩ := fun_of (x := "is_from") (st := s_is_from) c 1 rfl 33 rfl
  have g1 := He.glo_ok X G (x := "is_from") (c.fact 1 rfl)
  have b1 := F1.binds (ps := ["thing", "least", "most"]) fun _ _ _ _ _ _ us hl => match us, hl with | [_, _, _], _ => rfl
  obtain ⟨fd2, F2⟩ := fun_of (x := "ground_good") (st := s_ground_good) c 2 rfl 34 rfl
  have g2 := He.glo_ok X G (x := "ground_good") (c.fact 2 rfl)
  have b2 := F2.binds (ps := ["thing"]) fun _ _ _ _ _ _ us hl => match us, hl with | [_], _ => rfl
  obtain ⟨fd3, F3⟩ := fun_of (x := "set_good") (st := s_set_good) c 3 rfl 35 rfl
  have g3 := He.glo_ok X G (x := "set_good") (c.fact 3 rfl)
  have b3 := F3.binds (ps := ["n", "thing"]) fun _ _ _ _ _ _ us hl => match us, hl with | [_, _], _ => rfl
  obtain ⟨fd4, F4⟩ := fun_of (x := "first_flaw") (st := s_first_flaw) c 4 rfl 36 rfl
  have g4 := He.glo_ok X G (x := "first_flaw") (c.fact 4 rfl)
  have b4 := F4.binds (ps := ["n", "thing"]) fun _ _ _ _ _ _ us hl => match us, hl with | [_, _], _ => rfl
  obtain ⟨fd5, F5⟩ := fun_of (x := "need_ground") (st := s_need_ground) c 5 rfl 37 rfl
  have g5 := He.glo_ok X G (x := "need_ground") (c.fact 5 rfl)
  have b5 := F5.binds (ps := ["n"]) fun _ _ _ _ _ _ us hl => match us, hl with | [_], _ => rfl
  obtain ⟨fd6, F6⟩ := fun_of (x := "need_family") (st := s_need_family) c 6 rfl 38 rfl
  have g6 := He.glo_ok X G (x := "need_family") (c.fact 6 rfl)
  have b6 := F6.binds (ps := ["n", "family"]) fun _ _ _ _ _ _ us hl => match us, hl with | [_, _], _ => rfl
  obtain ⟨fd7, F7⟩ := fun_of (x := "lies_in") (st := s_lies_in) c 7 rfl 39 rfl
  have g7 := He.glo_ok X G (x := "lies_in") (c.fact 7 rfl)
  have b7 := F7.binds (ps := ["one", "other"]) fun _ _ _ _ _ _ us hl => match us, hl with | [_, _], _ => rfl
  obtain ⟨fd8, F8⟩ := fun_of (x := "share_point") (st := s_share_point) c 8 rfl 40 rfl
  have g8 := He.glo_ok X G (x := "share_point") (c.fact 8 rfl)
  have b8 := F8.binds (ps := ["one", "other"]) fun _ _ _ _ _ _ us hl => match us, hl with | [_, _], _ => rfl
  obtain ⟨fd9, F9⟩ := fun_of (x := "in_order") (st := s_in_order) c 9 rfl 41 rfl
  have g9 := He.glo_ok X G (x := "in_order") (c.fact 9 rfl)
  have b9 := F9.binds (ps := ["sets"]) fun _ _ _ _ _ _ us hl => match us, hl with | [_], _ => rfl
  obtain ⟨fd10, F10⟩ := fun_of (x := "sets_below") (st := s_sets_below) c 10 rfl 42 rfl
  have g10 := He.glo_ok X G (x := "sets_below") (c.fact 10 rfl)
  have b10 := F10.binds (ps := ["n"]) fun _ _ _ _ _ _ us hl => match us, hl with | [_], _ => rfl
  obtain ⟨fd11, F11⟩ := fun_of (x := "other_points") (st := s_other_points) c 11 rfl 43 rfl
  have g11 := He.glo_ok X G (x := "other_points") (c.fact 11 rfl)
  have b11 := F11.binds (ps := ["n", "one"]) fun _ _ _ _ _ _ us hl => match us, hl with | [_, _], _ => rfl
  obtain ⟨fd12, F12⟩ := fun_of (x := "need_both") (st := s_need_both) c 12 rfl 44 rfl
  have g12 := He.glo_ok X G (x := "need_both") (c.fact 12 rfl)
  have b12 := F12.binds (ps := ["n", "family"]) fun _ _ _ _ _ _ us hl => match us, hl with | [_, _], _ => rfl
  obtain ⟨fd13, F13⟩ := fun_of (x := "least_among") (st := s_least_among) c 13 rfl 45 rfl
  have g13 := He.glo_ok X G (x := "least_among") (c.fact 13 rfl)
  have b13 := F13.binds (ps := ["family"]) fun _ _ _ _ _ _ us hl => match us, hl with | [_], _ => rfl
  obtain ⟨fd14, F14⟩ := fun_of (x := "first_clash") (st := s_first_clash) c 14 rfl 46 rfl
  have g14 := He.glo_ok X G (x := "first_clash") (c.fact 14 rfl)
  have b14 := F14.binds (ps := ["family"]) fun _ _ _ _ _ _ us hl => match us, hl with | [_], _ => rfl
  obtain ⟨fd15, F15⟩ := fun_of (x := "is_full") (st := s_is_full) c 15 rfl 47 rfl
  have g15 := He.glo_ok X G (x := "is_full") (c.fact 15 rfl)
  have b15 := F15.binds (ps := ["n", "family"]) fun _ _ _ _ _ _ us hl => match us, hl with | [_, _], _ => rfl
  obtain ⟨fd16, F16⟩ := fun_of (x := "need_full") (st := s_need_full) c 16 rfl 48 rfl
  have g16 := He.glo_ok X G (x := "need_full") (c.fact 16 rfl)
  have b16 := F16.binds (ps := ["n", "family"]) fun _ _ _ _ _ _ us hl => match us, hl with | [_, _], _ => rfl
  obtain ⟨fd17, F17⟩ := fun_of (x := "with_opposite") (st := s_with_opposite) c 17 rfl 49 rfl
  have g17 := He.glo_ok X G (x := "with_opposite") (c.fact 17 rfl)
  have b17 := F17.binds (ps := ["n", "family", "one"]) fun _ _ _ _ _ _ us hl => match us, hl with | [_, _, _], _ => rfl
  obtain ⟨fd18, F18⟩ := fun_of (x := "need_two_full") (st := s_need_two_full) c 18 rfl 50 rfl
  have g18 := He.glo_ok X G (x := "need_two_full") (c.fact 18 rfl)
  have b18 := F18.binds (ps := ["n", "family", "other"]) fun _ _ _ _ _ _ us hl => match us, hl with | [_, _, _], _ => rfl
  obtain ⟨fd19, F19⟩ := fun_of (x := "first_least") (st := s_first_least) c 19 rfl 51 rfl
  have g19 := He.glo_ok X G (x := "first_least") (c.fact 19 rfl)
  have b19 := F19.binds (ps := ["sets"]) fun _ _ _ _ _ _ us hl => match us, hl with | [_], _ => rfl
  obtain ⟨fd20, F20⟩ := fun_of (x := "swaps_to") (st := s_swaps_to) c 20 rfl 52 rfl
  have g20 := He.glo_ok X G (x := "swaps_to") (c.fact 20 rfl)
  have b20 := F20.binds (ps := ["n", "family", "other"]) fun _ _ _ _ _ _ us hl => match us, hl with | [_, _, _], _ => rfl
  obtain ⟨fd21, F21⟩ := fun_of (x := "swaps_hold") (st := s_swaps_hold) c 21 rfl 53 rfl
  have g21 := He.glo_ok X G (x := "swaps_hold") (c.fact 21 rfl)
  have b21 := F21.binds (ps := ["n", "family", "other", "thing"]) fun _ _ _ _ _ _ us hl => match us, hl with | [_, _, _, _], _ => rfl
  obtain ⟨fd22, F22⟩ := fun_of (x := "_law_sets") (st := s_l_sets) c 22 rfl 54 rfl
  have g22 := He.glo_ok X G (x := "_law_sets") (c.fact 22 rfl)
  have b22 := F22.binds (ps := ["_law_n"]) fun _ _ _ _ _ _ us hl => match us, hl with | [_], _ => rfl
  obtain ⟨fd23, F23⟩ := fun_of (x := "_law_stir") (st := s_l_stir) c 23 rfl 55 rfl
  have g23 := He.glo_ok X G (x := "_law_stir") (c.fact 23 rfl)
  have b23 := F23.binds (ps := ["_law_cell", "_law_k"]) fun _ _ _ _ _ _ us hl => match us, hl with | [_, _], _ => rfl
  obtain ⟨fd24, F24⟩ := fun_of (x := "_law_share") (st := s_l_share) c 24 rfl 56 rfl
  have g24 := He.glo_ok X G (x := "_law_share") (c.fact 24 rfl)
  have b24 := F24.binds (ps := ["_law_one", "_law_other"]) fun _ _ _ _ _ _ us hl => match us, hl with | [_, _], _ => rfl
  obtain ⟨fd25, F25⟩ := fun_of (x := "_law_lies") (st := s_l_lies) c 25 rfl 57 rfl
  have g25 := He.glo_ok X G (x := "_law_lies") (c.fact 25 rfl)
  have b25 := F25.binds (ps := ["_law_one", "_law_other"]) fun _ _ _ _ _ _ us hl => match us, hl with | [_, _], _ => rfl
  obtain ⟨fd26, F26⟩ := fun_of (x := "_law_rest") (st := s_l_rest) c 26 rfl 58 rfl
  have g26 := He.glo_ok X G (x := "_law_rest") (c.fact 26 rfl)
  have b26 := F26.binds (ps := ["_law_n", "_law_one"]) fun _ _ _ _ _ _ us hl => match us, hl with | [_, _], _ => rfl
  obtain ⟨fd27, F27⟩ := fun_of (x := "_law_cell_at") (st := s_l_cell_at) c 27 rfl 59 rfl
  have g27 := He.glo_ok X G (x := "_law_cell_at") (c.fact 27 rfl)
  have b27 := F27.binds (ps := ["_law_script", "_law_k"]) fun _ _ _ _ _ _ us hl => match us, hl with | [_, _], _ => rfl
  obtain ⟨fd28, F28⟩ := fun_of (x := "_law_whole") (st := s_l_whole) c 28 rfl 60 rfl
  have g28 := He.glo_ok X G (x := "_law_whole") (c.fact 28 rfl)
  have b28 := F28.binds (ps := ["_law_found"]) fun _ _ _ _ _ _ us hl => match us, hl with | [_], _ => rfl
  obtain ⟨fd29, F29⟩ := fun_of (x := "_law_full_by") (st := s_l_full_by) c 29 rfl 61 rfl
  have g29 := He.glo_ok X G (x := "_law_full_by") (c.fact 29 rfl)
  have b29 := F29.binds (ps := ["_law_n", "_law_cell"]) fun _ _ _ _ _ _ us hl => match us, hl with | [_, _], _ => rfl
  obtain ⟨fd30, F30⟩ := fun_of (x := "_law_led") (st := s_l_led) c 30 rfl 62 rfl
  have g30 := He.glo_ok X G (x := "_law_led") (c.fact 30 rfl)
  have b30 := F30.binds (ps := ["_law_n", "_law_family", "_law_steps"]) fun _ _ _ _ _ _ us hl => match us, hl with | [_, _, _], _ => rfl
  obtain ⟨fd31, F31⟩ := fun_of (x := "law") (st := s_law) c 31 rfl 63 rfl
  have g31 := He.glo_ok X G (x := "law") (c.fact 31 rfl)
  have b31 := F31.binds (ps := ["_law_script"]) fun _ _ _ _ _ _ us hl => match us, hl with | [_], _ => rfl
  have B : Blt mg := ⟨He.free_ok X G (x := "isinstance") (c.fact 64 rfl), He.free_ok X G (x := "int") (c.fact 65 rfl), He.free_ok X G (x := "bool") (c.fact 66 rfl), He.free_ok X G (x := "tuple") (c.fact 67 rfl), He.free_ok X G (x := "list") (c.fact 68 rfl), He.free_ok X G (x := "len") (c.fact 69 rfl), He.free_ok X G (x := "range") (c.fact 70 rfl), He.free_ok X G (x := "sorted") (c.fact 71 rfl), He.free_ok X G (x := "dict") (c.fact 72 rfl), He.free_ok X G (x := "enumerate") (c.fact 73 rfl), He.free_ok X G (x := "set") (c.fact 74 rfl), He.free_ok X G (x := "all") (c.fact 75 rfl)⟩
  obtain ⟨tk, mp⟩ := He.int_ok X G (x := "MOST_POINTS") (i := 8) (c.fact 76 rfl)
  have e := hfa.symm.trans g31
  cases e
  refine ⟨fd31, fun s v => ?_, fun base _ _ => ?_⟩
  · obtain ⟨oc, od, kV, doc, pm, an, cdv, ct, osl, rfl, _, _⟩ := F31.ex
    exact .of_eq rfl
  have c_is_whole : Cal P w K mg base 1 "is_whole" ["thing"] sp_is_whole := ⟨_, fd0, ok_is_whole F0 B, g0, F0.kp, b0⟩
  have c_is_from : Cal P w K mg base 2 "is_from" ["thing", "least", "most"] sp_is_from := ⟨_, fd1, ok_is_from F1 c_is_whole, g1, F1.kp, b1⟩
  have c_ground_good : Cal P w K mg base 3 "ground_good" ["thing"] sp_ground_good := ⟨_, fd2, ok_ground_good F2 c_is_from mp, g2, F2.kp, b2⟩
  have c_set_good : Cal P w K mg base 3 "set_good" ["n", "thing"] sp_set_good := ⟨_, fd3, ok_set_good F3 B c_is_from, g3, F3.kp, b3⟩
  have c_first_flaw : Cal P w K mg base 4 "first_flaw" ["n", "thing"] sp_first_flaw := ⟨_, fd4, ok_first_flaw F4 B c_set_good, g4, F4.kp, b4⟩
  have c_need_ground : Cal P w K mg base 4 "need_ground" ["n"] sp_need_ground := ⟨_, fd5, ok_need_ground F5 c_ground_good, g5, F5.kp, b5⟩
  have c_need_family : Cal P w K mg base 5 "need_family" ["n", "family"] sp_need_family := ⟨_, fd6, ok_need_family F6 c_first_flaw, g6, F6.kp, b6⟩
  have c_lies_in : Cal P w K mg base 1 "lies_in" ["one", "other"] sp_lies_in := ⟨_, fd7, ok_lies_in F7, g7, F7.kp, b7⟩
  have c_share_point : Cal P w K mg base 1 "share_point" ["one", "other"] sp_share_point := ⟨_, fd8, ok_share_point F8, g8, F8.kp, b8⟩
  have c_in_order : Cal P w K mg base 1 "in_order" ["sets"] sp_in_order := ⟨_, fd9, ok_in_order F9 B, g9, F9.kp, b9⟩
  have c_sets_below : Cal P w K mg base 1 "sets_below" ["n"] sp_sets_below := ⟨_, fd10, ok_sets_below F10 B, g10, F10.kp, b10⟩
  have c_other_points : Cal P w K mg base 1 "other_points" ["n", "one"] sp_other_points := ⟨_, fd11, ok_other_points F11 B, g11, F11.kp, b11⟩
  have c_need_both : Cal P w K mg base 6 "need_both" ["n", "family"] sp_need_both := ⟨_, fd12, ok_need_both F12 c_need_ground c_need_family, g12, F12.kp, b12⟩
  have c_least_among : Cal P w K mg base 2 "least_among" ["family"] sp_least_among := ⟨_, fd13, ok_least_among F13 B c_lies_in, g13, F13.kp, b13⟩
  have c_first_clash : Cal P w K mg base 2 "first_clash" ["family"] sp_first_clash := ⟨_, fd14, ok_first_clash F14 B c_share_point, g14, F14.kp, b14⟩
  have c_is_full : Cal P w K mg base 3 "is_full" ["n", "family"] sp_is_full := ⟨_, fd15, ok_is_full F15 B c_sets_below c_first_clash, g15, F15.kp, b15⟩
  have c_need_full : Cal P w K mg base 4 "need_full" ["n", "family"] sp_need_full := ⟨_, fd16, ok_need_full F16 c_is_full, g16, F16.kp, b16⟩
  have c_with_opposite : Cal P w K mg base 2 "with_opposite" ["n", "family", "one"] sp_with_opposite := ⟨_, fd17, ok_with_opposite F17 c_in_order c_other_points, g17, F17.kp, b17⟩
  have c_need_two_full : Cal P w K mg base 7 "need_two_full" ["n", "family", "other"] sp_need_two_full := ⟨_, fd18, ok_need_two_full F18 c_need_both c_need_family c_need_full, g18, F18.kp, b18⟩
  have c_first_least : Cal P w K mg base 2 "first_least" ["sets"] sp_first_least := ⟨_, fd19, ok_first_least F19 c_lies_in, g19, F19.kp, b19⟩
  have c_swaps_to : Cal P w K mg base 8 "swaps_to" ["n", "family", "other"] sp_swaps_to := ⟨_, fd20, ok_swaps_to F20 B c_need_two_full c_first_least, g20, F20.kp, b20⟩
  have c_swaps_hold : Cal P w K mg base 8 "swaps_hold" ["n", "family", "other", "thing"] sp_swaps_hold := ⟨_, fd21, ok_swaps_hold F21 B c_need_two_full c_set_good c_least_among c_with_opposite, g21, F21.kp, b21⟩
  have c_l_sets : Cal P w K mg base 1 "_law_sets" ["_law_n"] sp_l_sets := ⟨_, fd22, ok_l_sets F22 B, g22, F22.kp, b22⟩
  have c_l_stir : Cal P w K mg base 1 "_law_stir" ["_law_cell", "_law_k"] sp_l_stir := ⟨_, fd23, ok_l_stir F23, g23, F23.kp, b23⟩
  have c_l_share : Cal P w K mg base 1 "_law_share" ["_law_one", "_law_other"] sp_l_share := ⟨_, fd24, ok_l_share F24 B, g24, F24.kp, b24⟩
  have c_l_lies : Cal P w K mg base 1 "_law_lies" ["_law_one", "_law_other"] sp_l_lies := ⟨_, fd25, ok_l_lies F25 B, g25, F25.kp, b25⟩
  have c_l_rest : Cal P w K mg base 1 "_law_rest" ["_law_n", "_law_one"] sp_other_points := ⟨_, fd26, ok_l_rest F26 B, g26, F26.kp, b26⟩
  have c_l_cell_at : Cal P w K mg base 1 "_law_cell_at" ["_law_script", "_law_k"] (sp_l_cell_at K) := ⟨_, fd27, ok_l_cell_at F27 B, g27, F27.kp, b27⟩
  have c_l_whole : Cal P w K mg base 1 "_law_whole" ["_law_found"] sp_is_whole := ⟨_, fd28, ok_l_whole F28 B, g28, F28.kp, b28⟩
  have c_l_full_by : Cal P w K mg base 2 "_law_full_by" ["_law_n", "_law_cell"] sp_l_full_by := ⟨_, fd29, ok_l_full_by F29 B c_l_sets c_l_stir c_l_share, g29, F29.kp, b29⟩
  have c_l_led : Cal P w K mg base 2 "_law_led" ["_law_n", "_law_family", "_law_steps"] sp_l_led := ⟨_, fd30, ok_l_led F30 B c_l_lies c_l_rest, g30, F30.kp, b30⟩
  exact ok_law F31 B c_l_cell_at c_l_full_by c_swaps_to c_l_sets c_l_whole c_l_led c_swaps_hold
end MS

set_option maxHeartbeats 0
/-! The top by one kernel run; the claim. -/
namespace MS
open PySem PySem.Spec PyProof.Rows L2
theorem run (w : World) : HandSHeadRun.RunEq R (PySem.W.view R.prog [43]) hk ob 3000 loose w := by
  intro os
  kernel_rfl
end MS
open PySem PySem.W PySem.Calls PyProof.Rows
theorem PySem.Challenge.cw_meetsets_k15_whole_swaps_lead_anywhere_holds : PySem.Challenge.rw_meetsets_k15_whole_swaps_lead_anywhere.Holds := by
  w_on; o_law
  refine HandSHeadRun.head_any (r := OpenLaw.row PySem.Challenge.rw_meetsets_k15_whole_swaps_lead_anywhere) (q := view (OpenLaw.row PySem.Challenge.rw_meetsets_k15_whole_swaps_lead_anywhere).prog [43]) (H := MS.hk) (ob := MS.ob) (M := 3000) (loose := MS.loose) (d := HandSHeadRun.topDef (OpenLaw.row PySem.Challenge.rw_meetsets_k15_whole_swaps_lead_anywhere).prog 43) (kwd := []) MS.ob_eq
    (by kernel_rfl) (fun s => by kernel_rfl) MS.run (by kernel_rfl) (by kernel_rfl) (by kernel_rfl) (by rfl) (by first | assumption | decide +kernel) (by decide +kernel) ⟨rfl, rfl, rfl, rfl, rfl, by decide +kernel⟩ ?hw ?hc
  case hw => w_witness2
  case hc =>
    refine L2.walk_ofE (l := PySem.Challenge.rw_meetsets_k15_whole_swaps_lead_anywhere) (n := 63) (k := 9) (x := "_law_script") (CX := L2.CX0) rfl (by decide) (by kernel_rfl) ⟨rfl, by decide, by decide⟩ ?F (fun _ _ _ _ z => z)
    intro w mg fa h Y G hmg0
    obtain ⟨K, KX, c⟩ := Y
    have hmg : mg ("law" : PySem.Str) = some (.ref fa) := by
      have e : (HandSHeadRun.topDef (OpenLaw.row PySem.Challenge.rw_meetsets_k15_whole_swaps_lead_anywhere).prog 43).name = ("law" : PySem.Str) := by kernel_rfl
      rw [← e]
      exact hmg0
    obtain ⟨fd, hb, hF⟩ := MS.facts (P := (PySem.Challenge.rw_meetsets_k15_whole_swaps_lead_anywhere).prog) (w := w) KX G hmg c
    exact ⟨K, fd, MS.sp_law K, KX, hb, fun H a ns hl _ hS => ⟨a, ns, rfl, hS, hl, fun _ => rfl⟩, hF⟩
