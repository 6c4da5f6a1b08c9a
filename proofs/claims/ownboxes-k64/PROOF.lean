import PyProof.Rows.All
import Wide.All
import OpenK.AllK
import Wide.FinOn
import HandS.Base
import HandS.Call
import HandS.List
import HandS.SortInts
import HandS.RaiseMore
import KE.DataMinMax
import HandS.SortOrd
import HandS.Iter
import KE.GoesMore
import KE.GoesEnum
import HandS.Comp
import HandS.Ends
import HandS.Dict
import HandS.Text
import HandS.More
import HandS.Exc
import HandS.Words
import HandS.WordsList
import HandS.WordsDict
import HandS.Steps
import HandS.Defaults
import HandS.Conv
import HandS.Deep
import HandS.NoneIn
import HandS.FStr
import HandS.Wide
import HandS.WideBits
import HandS.TupAny
import HandS.Codes
import HandS.HeadHook1
import HandS.HeadHook2
import KE.KStateDown
import HandS.WordsExc
import HandS.Head0
import HandS.Head1
import HandS.Head2
import HandS.HeadEnd
import HandS.EndBits
import PySem.Challenge.RW_ownboxes_k64_whole_from_text_to_answers
set_option maxHeartbeats 4000000
set_option maxHeartbeats 1000000
/-! Orders and their rings, in plain Lean. -/
namespace Obx

/-- what an order tells for a box -/
def nx (o : List Nat) (b : Nat) : Nat := o.getD b 0
structure IsOrd (o : List Nat) : Prop where
  lt : ∀ x, x < o.length → nx o x < o.length
  inj : ∀ x y, x < o.length → y < o.length → nx o x = nx o y → x = y

theorem nx_get {o : List Nat} {x : Nat} (h : x < o.length) : o[x]? = some (nx o x) := by
  unfold nx
  rw [List.getD_eq_getElem?_getD, List.getElem?_eq_getElem h]
  rfl
theorem ext_nx {o p : List Nat} (hl : o.length = p.length) (h : ∀ x, x < o.length → nx o x = nx p x) : o = p := by
  apply List.ext_getElem? 
  intro i
  by_cases hi : i < o.length
  · rw [nx_get hi, nx_get (hl ▸ hi), h i hi]
  · rw [List.getElem?_eq_none (by omega), List.getElem?_eq_none (by omega)]
theorem nx_mem {o : List Nat} {x : Nat} (h : x < o.length) : nx o x ∈ o := by
  have := nx_get h
  exact List.mem_of_getElem? this
theorem IsOrd.of_perm {o : List Nat} (h : o.Perm (List.range o.length)) : IsOrd o := by
  have nd : o.Nodup := h.nodup_iff.mpr List.nodup_range
  refine ⟨fun x hx => ?_, fun x y hx hy e => ?_⟩
  · have := h.mem_iff.mp (nx_mem hx)
    simpa using this
  · have h1 := nx_get hx
    have h2 := nx_get hy
    rw [e] at h1
    rw [List.getElem?_eq_getElem hx] at h1
    rw [List.getElem?_eq_getElem hy] at h2
    have h3 : o[x] = o[y] := (Option.some.inj h1).trans (Option.some.inj h2).symm
    exact (List.getElem_inj nd).mp h3
theorem IsOrd.perm {o : List Nat} (h : IsOrd o) : o.Perm (List.range o.length) := by
  have e : o = (List.range o.length).map (nx o) := by
    apply List.ext_getElem?
    intro i
    by_cases hi : i < o.length
    · rw [nx_get hi, List.getElem?_map, List.getElem?_range hi]
      rfl
    · rw [List.getElem?_eq_none (by omega), List.getElem?_eq_none (by simp; omega)]
  have nd : o.Nodup := by
    rw [List.nodup_iff_pairwise_ne, List.pairwise_iff_getElem]
    intro i j hi hj hij q
    have h1 := nx_get hi
    have h2 := nx_get hj
    rw [List.getElem?_eq_getElem hi] at h1
    rw [List.getElem?_eq_getElem hj] at h2
    have h3 := h.inj i j hi hj (by rw [← Option.some.inj h1, ← Option.some.inj h2]; exact q)
    omega
  have sub : ∀ x ∈ o, x < o.length := by
    intro x hx
    rw [e] at hx
    obtain ⟨i, hi, rfl⟩ := List.mem_map.mp hx
    exact h.lt i (by simpa using hi)
  refine (List.perm_ext_iff_of_nodup nd List.nodup_range).mpr fun a => ⟨fun ha => List.mem_range.mpr (sub a ha), fun ha => ?_⟩
  -- onto, by counting
  apply Classical.byContradiction
  intro hna
  have nd2 : (a :: o).Nodup := List.nodup_cons.mpr ⟨hna, nd⟩
  have := List.Nodup.length_le_of_subset (l₂ := List.range o.length) nd2 (by
    intro z hz
    rcases List.mem_cons.mp hz with rfl | hz
    · exact ha
    · exact List.mem_range.mpr (sub z hz))
  simp at this
  omega

/-- k steps -/
def pw (o : List Nat) : Nat → Nat → Nat
  | 0, b => b
  | k + 1, b => nx o (pw o k b)
theorem pw_lt {o : List Nat} (h : IsOrd o) {b : Nat} (hb : b < o.length) : ∀ k, pw o k b < o.length
  | 0 => hb
  | k + 1 => h.lt _ (pw_lt h hb k)
theorem pw_succ (o : List Nat) (b : Nat) : ∀ k, pw o (k + 1) b = pw o k (nx o b)
  | 0 => rfl
  | k + 1 => by
    show nx o (pw o (k + 1) b) = nx o (pw o k (nx o b))
    rw [pw_succ o b k]
theorem pw_back {o : List Nat} (h : IsOrd o) {b : Nat} (hb : b < o.length) : ∀ i j, pw o i b = pw o (i + j) b → pw o j b = b
  | 0, j, e => by
    rw [Nat.zero_add] at e
    exact e.symm
  | i + 1, j, e => by
    have e2 : pw o (i + 1 + j) b = nx o (pw o (i + j) b) := by
      rw [show i + 1 + j = (i + j) + 1 by omega]
      rfl
    rw [e2] at e
    exact pw_back h hb i j (h.inj _ _ (pw_lt h hb i) (pw_lt h hb (i + j)) e)
/-- every box comes again -/
theorem returns {o : List Nat} (h : IsOrd o) {b : Nat} (hb : b < o.length) : ∃ p, 1 ≤ p ∧ p ≤ o.length ∧ pw o p b = b := by
  apply Classical.byContradiction
  intro hn
  have inj : ∀ i j, i < j → j ≤ o.length → pw o i b ≠ pw o j b := by
    intro i j hij hj e
    refine hn ⟨j - i, by omega, by omega, ?_⟩
    have : j = i + (j - i) := by omega
    rw [this] at e
    exact pw_back h hb i (j - i) e
  have nd : ((List.range (o.length + 1)).map fun i => pw o i b).Nodup := by
    rw [List.nodup_iff_pairwise_ne, List.pairwise_iff_getElem]
    intro i j hi hj hij
    simp only [List.getElem_map, List.getElem_range]
    simp at hj
    exact inj i j hij (by omega)
  have := List.Nodup.length_le_of_subset (l₂ := List.range o.length) nd (by
    intro z hz
    obtain ⟨i, _, rfl⟩ := List.mem_map.mp hz
    exact List.mem_range.mpr (pw_lt h hb i))
  simp at this
  omega

/-! ### a ring -/
def ringGo (o : List Nat) (b : Nat) : Nat → Nat → List Nat
  | 0, c => [c]
  | n + 1, c => if nx o c = b then [c] else c :: ringGo o b n (nx o c)
def ring (o : List Nat) (b : Nat) : List Nat := ringGo o b o.length b
/-- from c on b comes within n more steps -/
def Ends (o : List Nat) (b : Nat) : Nat → Nat → Prop
  | 0, c => nx o c = b
  | n + 1, c => nx o c = b ∨ Ends o b n (nx o c)
theorem ends_of (o : List Nat) (b : Nat) : ∀ (n c p : Nat), 1 ≤ p → p ≤ n + 1 → pw o p c = b → Ends o b n c
  | 0, c, p, h1, h2, e => by
    have : p = 1 := by omega
    subst this
    exact e
  | n + 1, c, p, h1, h2, e => by
    by_cases hp : p = 1
    · subst hp
      exact .inl e
    · obtain ⟨q, rfl⟩ : ∃ q, p = q + 1 := ⟨p - 1, by omega⟩
      rw [pw_succ] at e
      exact .inr (ends_of o b n (nx o c) q (by omega) (by omega) e)
theorem ends_ring {o : List Nat} (h : IsOrd o) {b : Nat} (hb : b < o.length) : Ends o b o.length b := by
  obtain ⟨p, h1, h2, e⟩ := returns h hb
  exact ends_of o b _ b p h1 (by omega) e

def Path (o : List Nat) : List Nat → Nat → Prop
  | [], _ => True
  | x :: l, z => nx o x = l.headD z ∧ Path o l z
theorem ringGo_ne (o : List Nat) (b : Nat) : ∀ n c, ∃ l, ringGo o b n c = c :: l
  | 0, c => ⟨[], rfl⟩
  | n + 1, c => by
    show ∃ l, (if nx o c = b then [c] else c :: ringGo o b n (nx o c)) = c :: l
    by_cases e : nx o c = b
    · rw [if_pos e]; exact ⟨[], rfl⟩
    · rw [if_neg e]; exact ⟨_, rfl⟩
theorem ringGo_path (o : List Nat) (b : Nat) : ∀ n c, Ends o b n c → Path o (ringGo o b n c) b
  | 0, c, h => ⟨h, trivial⟩
  | n + 1, c, h => by
    show Path o (if nx o c = b then [c] else c :: ringGo o b n (nx o c)) b
    by_cases e : nx o c = b
    · rw [if_pos e]; exact ⟨e, trivial⟩
    · rw [if_neg e]
      have h' : Ends o b n (nx o c) := h.resolve_left e
      refine ⟨?_, ringGo_path o b n _ h'⟩
      obtain ⟨l, q⟩ := ringGo_ne o b n (nx o c)
      rw [q]
      rfl
theorem ringGo_tail (o : List Nat) (b : Nat) : ∀ n c, b ∉ (ringGo o b n c).tail
  | 0, c => by show b ∉ ([] : List Nat); simp
  | n + 1, c => by
    show b ∉ (if nx o c = b then [c] else c :: ringGo o b n (nx o c)).tail
    by_cases e : nx o c = b
    · rw [if_pos e]; simp
    · rw [if_neg e]
      show b ∉ ringGo o b n (nx o c)
      have ih := ringGo_tail o b n (nx o c)
      obtain ⟨l, q⟩ := ringGo_ne o b n (nx o c)
      rw [q] at ih ⊢
      simp only [List.tail_cons] at ih
      simp only [List.mem_cons, not_or]
      exact ⟨fun z => e z.symm, ih⟩
theorem ringGo_lt {o : List Nat} (h : IsOrd o) (b : Nat) : ∀ n c, c < o.length → ∀ x ∈ ringGo o b n c, x < o.length
  | 0, c, hc => by
    intro x hx
    have : x = c := by simpa [ringGo] using hx
    omega
  | n + 1, c, hc => by
    intro x hx
    have hx' : x ∈ (if nx o c = b then [c] else c :: ringGo o b n (nx o c)) := hx
    by_cases e : nx o c = b
    · rw [if_pos e] at hx'
      have : x = c := by simpa using hx'
      omega
    · rw [if_neg e] at hx'
      rcases List.mem_cons.mp hx' with rfl | hx'
      · exact hc
      · exact ringGo_lt h b n _ (h.lt c hc) x hx'
theorem ringGo_length (o : List Nat) (b : Nat) : ∀ n c, (ringGo o b n c).length ≤ n + 1
  | 0, c => by simp [ringGo]
  | n + 1, c => by
    show (if nx o c = b then [c] else c :: ringGo o b n (nx o c)).length ≤ _
    by_cases e : nx o c = b
    · rw [if_pos e]; simp
    · rw [if_neg e]
      have := ringGo_length o b n (nx o c)
      simp only [List.length_cons]
      omega
/-- a way that comes back to b, and not before, is the ring -/
theorem ringGo_unique (o : List Nat) (b : Nat) : ∀ (l : List Nat) (c n : Nat), Path o (c :: l) b → b ∉ l → l.length ≤ n → ringGo o b n c = c :: l
  | [], c, n, hp, _, _ => by
    have e : nx o c = b := hp.1
    cases n with
    | zero => rfl
    | succ n =>
      show (if nx o c = b then [c] else c :: ringGo o b n (nx o c)) = [c]
      rw [if_pos e]
  | y :: l, c, n, hp, hb, hl => by
    have e : nx o c = y := hp.1
    cases n with
    | zero => simp at hl
    | succ n =>
      have hby : ¬ b = y ∧ b ∉ l := by
        simp only [List.mem_cons, not_or] at hb
        exact hb
      show (if nx o c = b then [c] else c :: ringGo o b n (nx o c)) = c :: y :: l
      rw [e, if_neg (fun z => hby.1 z.symm)]
      rw [ringGo_unique o b l y n hp.2 hby.2 (by simpa using hl)]
theorem Path.getElem {o : List Nat} : ∀ {l : List Nat} {z : Nat}, Path o l z → ∀ (i : Nat) (h : i + 1 < l.length), l[i + 1] = nx o l[i]
  | [], _, _, i, h => by simp at h
  | [x], _, _, i, h => by simp at h
  | x :: y :: l, z, hp, 0, h => by
    have := hp.1
    simp at this
    simp [this]
  | x :: y :: l, z, hp, i + 1, h => by
    have := Path.getElem (l := y :: l) hp.2 i (by simpa using h)
    simpa using this
theorem path_nodup {o : List Nat} (h : IsOrd o) {b : Nat} {l : List Nat} (hp : Path o (b :: l) b) (hb : b ∉ l) (hlt : ∀ x ∈ b :: l, x < o.length) : (b :: l).Nodup := by
  rw [List.nodup_iff_pairwise_ne, List.pairwise_iff_getElem]
  have key : ∀ (i j : Nat) (hi : i < (b :: l).length) (hj : j < (b :: l).length), i < j → (b :: l)[i] ≠ (b :: l)[j] := by
    intro i
    induction i with
    | zero =>
      intro j hi hj hij e
      obtain ⟨k, rfl⟩ : ∃ k, j = k + 1 := ⟨j - 1, by omega⟩
      refine hb ?_
      simp only [List.getElem_cons_zero, List.getElem_cons_succ] at e
      rw [e]
      exact List.getElem_mem _
    | succ i ih =>
      intro j hi hj hij e
      obtain ⟨k, rfl⟩ : ∃ k, j = k + 1 := ⟨j - 1, by omega⟩
      rw [hp.getElem i hi, hp.getElem k hj] at e
      have := h.inj _ _ (hlt _ (List.getElem_mem _)) (hlt _ (List.getElem_mem _)) e
      exact ih k (by omega) (by omega) (by omega) this
  exact key

structure RingOk (o r : List Nat) (b : Nat) : Prop where
  path : Path o r b
  head : ∃ l, r = b :: l ∧ b ∉ l
  lt : ∀ x ∈ r, x < o.length
  nd : r.Nodup
theorem ring_ok {o : List Nat} (h : IsOrd o) {b : Nat} (hb : b < o.length) : RingOk o (ring o b) b := by
  have hp := ringGo_path o b _ b (ends_ring h hb)
  have ht := ringGo_tail o b o.length b
  have hl := ringGo_lt h b o.length b hb
  obtain ⟨l, e⟩ := ringGo_ne o b o.length b
  unfold ring
  rw [e] at hp ht hl ⊢
  exact ⟨hp, ⟨l, rfl, ht⟩, hl, path_nodup h hp ht hl⟩
theorem ring_unique {o l : List Nat} {b : Nat} (hp : Path o (b :: l) b) (hb : b ∉ l) (hl : l.length ≤ o.length) : ring o b = b :: l := ringGo_unique o b l b _ hp hb hl

/-! ### all rings -/
def ringsGo (o : List Nat) : List Nat → List Nat → List (List Nat)
  | [], _ => []
  | b :: bs, met => if b ∈ met then ringsGo o bs met else ring o b :: ringsGo o bs (met ++ ring o b)
def rings (o : List Nat) : List (List Nat) := ringsGo o (List.range o.length) []

/-- what follows in a closed list is in it -/
theorem path_from {o : List Nat} {met : List Nat} (cl : ∀ x ∈ met, nx o x ∈ met) : ∀ {l : List Nat} {z : Nat}, Path o l z → (∃ x ∈ l, x ∈ met) → z ∈ met
  | [], _, _, ⟨x, h, _⟩ => by simp at h
  | [y], z, hp, ⟨x, h, hm⟩ => by
    have e : x = y := by simpa using h
    subst e
    have := cl x hm
    rw [hp.1] at this
    exact this
  | y :: y' :: l, z, hp, ⟨x, h, hm⟩ => by
    rcases List.mem_cons.mp h with rfl | h
    · refine path_from cl hp.2 ⟨y', List.mem_cons_self, ?_⟩
      have := cl x hm
      rw [hp.1] at this
      exact this
    · exact path_from cl hp.2 ⟨x, h, hm⟩
theorem path_closed {o : List Nat} : ∀ {l : List Nat} {z : Nat}, Path o l z → ∀ x ∈ l, nx o x = z ∨ nx o x ∈ l
  | [], _, _, x, h => by simp at h
  | [y], z, hp, x, h => by
    have e : x = y := by simpa using h
    subst e
    exact .inl hp.1
  | y :: y' :: l, z, hp, x, h => by
    rcases List.mem_cons.mp h with rfl | h
    · right
      rw [hp.1]
      simp
    · rcases path_closed hp.2 x h with e | e
      · exact .inl e
      · exact .inr (List.mem_cons_of_mem _ e)

theorem ringsGo_ok {o : List Nat} (h : IsOrd o) : ∀ (bs met : List Nat), (∀ b ∈ bs, b < o.length) → (∀ x ∈ met, x < o.length) → (∀ x ∈ met, nx o x ∈ met) → met.Nodup →
    (met ++ (ringsGo o bs met).flatten).Nodup ∧ (∀ x ∈ met ++ (ringsGo o bs met).flatten, x < o.length) ∧ (∀ b ∈ bs, b ∈ met ++ (ringsGo o bs met).flatten) ∧ ∀ r ∈ ringsGo o bs met, RingOk o r (r.headD 0)
  | [], met, _, hm, _, nd => by
    refine ⟨by simpa [ringsGo] using nd, by simpa [ringsGo] using hm, by simp, by simp [ringsGo]⟩
  | b :: bs, met, hb, hm, hc, nd => by
    have hb' : ∀ x ∈ bs, x < o.length := fun x hx => hb x (List.mem_cons_of_mem _ hx)
    by_cases hbm : b ∈ met
    · have e : ringsGo o (b :: bs) met = ringsGo o bs met := by
        show (if b ∈ met then ringsGo o bs met else _) = _
        rw [if_pos hbm]
      rw [e]
      obtain ⟨i1, i2, i3, i4⟩ := ringsGo_ok h bs met hb' hm hc nd
      refine ⟨i1, i2, fun x hx => ?_, i4⟩
      rcases List.mem_cons.mp hx with rfl | hx
      · exact List.mem_append_left _ hbm
      · exact i3 x hx
    · have e : ringsGo o (b :: bs) met = ring o b :: ringsGo o bs (met ++ ring o b) := by
        show (if b ∈ met then ringsGo o bs met else _) = _
        rw [if_neg hbm]
      rw [e]
      have R := ring_ok h (hb b List.mem_cons_self)
      obtain ⟨l, hl, hbl⟩ := R.head
      have dis : ∀ x ∈ ring o b, x ∉ met := fun x hx hxm => hbm (path_from hc R.path ⟨x, hx, hxm⟩)
      have nd2 : (met ++ ring o b).Nodup := List.nodup_append.mpr ⟨nd, R.nd, fun a ha c hc' q => dis c hc' (q ▸ ha)⟩
      have cl2 : ∀ x ∈ met ++ ring o b, nx o x ∈ met ++ ring o b := by
        intro x hx
        rcases List.mem_append.mp hx with hx | hx
        · exact List.mem_append_left _ (hc x hx)
        · refine List.mem_append_right _ ?_
          rcases path_closed R.path x hx with q | q
          · rw [q, hl]; simp
          · exact q
      have lt2 : ∀ x ∈ met ++ ring o b, x < o.length := by
        intro x hx
        rcases List.mem_append.mp hx with hx | hx
        · exact hm x hx
        · exact R.lt x hx
      obtain ⟨i1, i2, i3, i4⟩ := ringsGo_ok h bs (met ++ ring o b) hb' lt2 cl2 nd2
      have ea : met ++ (ring o b :: ringsGo o bs (met ++ ring o b)).flatten = met ++ ring o b ++ (ringsGo o bs (met ++ ring o b)).flatten := by
        rw [List.flatten_cons, List.append_assoc]
      rw [ea]
      refine ⟨i1, i2, fun x hx => ?_, fun r hr => ?_⟩
      · rcases List.mem_cons.mp hx with rfl | hx
        · refine List.mem_append_left _ (List.mem_append_right _ ?_)
          rw [hl]; simp
        · exact i3 x hx
      · rcases List.mem_cons.mp hr with rfl | hr
        · have : (ring o b).headD 0 = b := by rw [hl]; rfl
          rw [this]
          exact R
        · exact i4 r hr

/-- rings that have each box in just one, each coming back in o -/
structure Parts (o : List Nat) (rs : List (List Nat)) : Prop where
  perm : rs.flatten.Perm (List.range o.length)
  ne : ∀ r ∈ rs, r ≠ []
  path : ∀ r ∈ rs, Path o r (r.headD 0)
theorem rings_parts {o : List Nat} (h : IsOrd o) : Parts o (rings o) := by
  obtain ⟨i1, i2, i3, i4⟩ := ringsGo_ok h (List.range o.length) [] (fun b hb => List.mem_range.mp hb) (by simp) (by simp) List.nodup_nil
  rw [List.nil_append] at i1 i2 i3
  refine ⟨?_, fun r hr => ?_, fun r hr => (i4 r hr).path⟩
  · refine (List.perm_ext_iff_of_nodup i1 List.nodup_range).mpr fun a => ⟨fun ha => List.mem_range.mpr (i2 a ha), fun ha => i3 a ha⟩
  · obtain ⟨l, e, _⟩ := (i4 r hr).head
    rw [e]; simp

/-! ### the order of rings -/
/-- each box with the one that comes behind it, the last one first -/
def pairs (r : List Nat) : List (Nat × Nat) := (r.getLastD 0 :: r.dropLast).zip r
def setAll (names : List Nat) (ps : List (Nat × Nat)) : List Nat := ps.foldl (fun ns p => ns.set p.1 p.2) names
def orderBy (rs : List (List Nat)) : List Nat := setAll (List.replicate rs.flatten.length 0) (rs.flatMap pairs)
theorem setAll_length : ∀ (ps : List (Nat × Nat)) (ns : List Nat), (setAll ns ps).length = ns.length
  | [], _ => rfl
  | p :: ps, ns => by
    show (setAll (ns.set p.1 p.2) ps).length = _
    rw [setAll_length ps, List.length_set]
theorem setAll_append (ns : List Nat) (ps qs : List (Nat × Nat)) : setAll ns (ps ++ qs) = setAll (setAll ns ps) qs := by
  unfold setAll; rw [List.foldl_append]
theorem setAll_other : ∀ (ps : List (Nat × Nat)) (ns : List Nat) (x : Nat), x ∉ ps.map (·.1) → nx (setAll ns ps) x = nx ns x
  | [], _, _, _ => rfl
  | p :: ps, ns, x, h => by
    have h2 : x ≠ p.1 ∧ x ∉ ps.map (·.1) := by simpa using h
    show nx (setAll (ns.set p.1 p.2) ps) x = _
    rw [setAll_other ps _ x h2.2]
    unfold nx
    rw [List.getD_eq_getElem?_getD, List.getD_eq_getElem?_getD, List.getElem?_set_ne (Ne.symm h2.1)]
theorem setAll_at : ∀ (ps : List (Nat × Nat)) (ns : List Nat) (x y : Nat), (ps.map (·.1)).Nodup → (x, y) ∈ ps → x < ns.length → nx (setAll ns ps) x = y
  | [], _, _, _, _, h, _ => by simp at h
  | p :: ps, ns, x, y, nd, h, hx => by
    have nd2 : p.1 ∉ ps.map (·.1) ∧ (ps.map (·.1)).Nodup := by simpa using nd
    show nx (setAll (ns.set p.1 p.2) ps) x = y
    rcases List.mem_cons.mp h with e | h
    · subst e
      rw [setAll_other ps _ _ nd2.1]
      unfold nx
      rw [List.getD_eq_getElem?_getD, List.getElem?_set_self hx]
      rfl
    · exact setAll_at ps _ x y nd2.2 h (by rw [List.length_set]; exact hx)
theorem pairs_cons (x : Nat) (l : List Nat) : pairs (x :: l) = ((x :: l).getLastD 0 :: (x :: l).dropLast).zip (x :: l) := rfl
theorem getLastD_cons_eq (x : Nat) (l : List Nat) : (x :: l).getLastD 0 = (x :: l).getLast (List.cons_ne_nil _ _) := by
  rw [List.getLastD_eq_getLast?, List.getLast?_eq_some_getLast (List.cons_ne_nil x l)]
  rfl
theorem pairs_fst {r : List Nat} (h : r ≠ []) : ((pairs r).map (·.1)).Perm r := by
  obtain ⟨x, l, rfl⟩ : ∃ x l, r = x :: l := by
    cases r with
    | nil => exact absurd rfl h
    | cons x l => exact ⟨x, l, rfl⟩
  have e : (pairs (x :: l)).map (·.1) = (x :: l).getLastD 0 :: (x :: l).dropLast := by
    unfold pairs
    exact List.map_fst_zip (by simp)
  rw [e, getLastD_cons_eq]
  have q : (x :: l).dropLast ++ [(x :: l).getLast (List.cons_ne_nil _ _)] = x :: l := List.dropLast_concat_getLast (List.cons_ne_nil x l)
  exact (List.perm_append_singleton _ _).symm.trans (List.Perm.of_eq q)
theorem pairs_snd (r : List Nat) : (pairs r).map (·.2) = r := by
  cases r with
  | nil => rfl
  | cons x l =>
    unfold pairs
    exact List.map_snd_zip (by simp)
theorem zip_path {o : List Nat} : ∀ {l : List Nat} {z : Nat}, Path o l z → ∀ p ∈ (l.dropLast.zip l.tail), nx o p.1 = p.2
  | [], _, _, p, h => by simp at h
  | [x], _, _, p, h => by simp at h
  | x :: y :: l, z, hp, p, h => by
    have e : (x :: y :: l).dropLast.zip (x :: y :: l).tail = (x, y) :: (y :: l).dropLast.zip (y :: l).tail := by
      simp [List.dropLast]
    rw [e] at h
    rcases List.mem_cons.mp h with rfl | h
    · exact hp.1
    · exact zip_path hp.2 p h
theorem path_last {o : List Nat} : ∀ {l : List Nat} {z : Nat}, Path o l z → l ≠ [] → nx o (l.getLastD 0) = z
  | [], _, _, h => absurd rfl h
  | [x], _, hp, _ => hp.1
  | x :: y :: l, z, hp, _ => by
    have := path_last (l := y :: l) hp.2 (List.cons_ne_nil _ _)
    simpa [List.getLastD] using this
theorem pairs_path {o r : List Nat} (hp : Path o r (r.headD 0)) : ∀ p ∈ pairs r, nx o p.1 = p.2 := by
  cases r with
  | nil => intro p h; simp [pairs] at h
  | cons x l =>
    intro p h
    have e : pairs (x :: l) = ((x :: l).getLastD 0, x) :: (x :: l).dropLast.zip l := rfl
    rw [e] at h
    rcases List.mem_cons.mp h with rfl | h
    · exact path_last hp (List.cons_ne_nil _ _)
    · exact zip_path hp p h
theorem path_pairs {o : List Nat} : ∀ {l : List Nat} {z : Nat}, l ≠ [] → (∀ p ∈ (l.dropLast.zip l.tail), nx o p.1 = p.2) → nx o (l.getLastD 0) = z → Path o l z
  | [], _, h, _, _ => absurd rfl h
  | [x], _, _, _, e => ⟨e, trivial⟩
  | x :: y :: l, z, _, h, e => by
    have q : (x :: y :: l).dropLast.zip (x :: y :: l).tail = (x, y) :: (y :: l).dropLast.zip (y :: l).tail := by
      simp [List.dropLast]
    rw [q] at h
    refine ⟨h (x, y) List.mem_cons_self, path_pairs (List.cons_ne_nil _ _) (fun p hp => h p (List.mem_cons_of_mem _ hp)) ?_⟩
    simpa [List.getLastD] using e
theorem pathR {o r : List Nat} (hne : r ≠ []) (h : ∀ p ∈ pairs r, nx o p.1 = p.2) : Path o r (r.headD 0) := by
  cases r with
  | nil => exact absurd rfl hne
  | cons x l =>
    have e : pairs (x :: l) = ((x :: l).getLastD 0, x) :: (x :: l).dropLast.zip l := rfl
    rw [e] at h
    exact path_pairs hne (fun p hp => h p (List.mem_cons_of_mem _ hp)) (h _ List.mem_cons_self)

theorem flat_fst : ∀ (rs : List (List Nat)), (∀ r ∈ rs, r ≠ []) → ((rs.flatMap pairs).map (·.1)).Perm rs.flatten
  | [], _ => by simp
  | r :: rs, h => by
    rw [List.flatMap_cons, List.map_append, List.flatten_cons]
    exact (pairs_fst (h r List.mem_cons_self)).append (flat_fst rs fun q hq => h q (List.mem_cons_of_mem _ hq))
theorem flat_snd : ∀ (rs : List (List Nat)), (rs.flatMap pairs).map (·.2) = rs.flatten
  | [] => by simp
  | r :: rs => by rw [List.flatMap_cons, List.map_append, List.flatten_cons, pairs_snd, flat_snd rs]

/-- rings of a partition of n boxes -/
structure Cover (n : Nat) (rs : List (List Nat)) : Prop where
  perm : rs.flatten.Perm (List.range n)
  ne : ∀ r ∈ rs, r ≠ []
theorem Cover.len {n : Nat} {rs : List (List Nat)} (c : Cover n rs) : rs.flatten.length = n := by rw [c.perm.length_eq, List.length_range]
theorem Cover.nd {n : Nat} {rs : List (List Nat)} (c : Cover n rs) : rs.flatten.Nodup := c.perm.nodup_iff.mpr List.nodup_range
theorem Cover.keys {n : Nat} {rs : List (List Nat)} (c : Cover n rs) : ((rs.flatMap pairs).map (·.1)).Nodup := (flat_fst rs c.ne).nodup_iff.mpr c.nd
theorem orderBy_length (rs : List (List Nat)) : (orderBy rs).length = rs.flatten.length := by
  unfold orderBy; rw [setAll_length, List.length_replicate]
theorem orderBy_at {n : Nat} {rs : List (List Nat)} (c : Cover n rs) {p : Nat × Nat} (h : p ∈ rs.flatMap pairs) : nx (orderBy rs) p.1 = p.2 := by
  refine setAll_at _ _ p.1 p.2 c.keys h ?_
  rw [List.length_replicate, c.len]
  have h1 : p.1 ∈ rs.flatten := (flat_fst rs c.ne).mem_iff.mp (List.mem_map.mpr ⟨p, h, rfl⟩)
  simpa using c.perm.mem_iff.mp h1
theorem Parts.cover {o : List Nat} {rs : List (List Nat)} (h : Parts o rs) : Cover o.length rs := ⟨h.perm, h.ne⟩
/-- of rings that come back in o, o comes -/
theorem orderBy_back {o : List Nat} {rs : List (List Nat)} (h : Parts o rs) : orderBy rs = o := by
  have c := h.cover
  refine ext_nx (by rw [orderBy_length, c.len]) fun x hx => ?_
  rw [orderBy_length, c.len] at hx
  have hx2 : x ∈ (rs.flatMap pairs).map (·.1) := (flat_fst rs c.ne).mem_iff.mpr (c.perm.mem_iff.mpr (List.mem_range.mpr hx))
  obtain ⟨p, hp, rfl⟩ := List.mem_map.mp hx2
  rw [orderBy_at c hp]
  obtain ⟨r, hr, hpr⟩ := List.mem_flatMap.mp hp
  exact (pairs_path (h.path r hr) p hpr).symm
theorem nodup_snd_inj : ∀ {ps : List (Nat × Nat)} {p q : Nat × Nat}, (ps.map (·.2)).Nodup → p ∈ ps → q ∈ ps → p.2 = q.2 → p = q
  | [], p, q, _, h, _, _ => by simp at h
  | a :: ps, p, q, nd, hp, hq, e => by
    have nd2 : a.2 ∉ ps.map (·.2) ∧ (ps.map (·.2)).Nodup := by simpa using nd
    rcases List.mem_cons.mp hp with e1 | hp1
    · rcases List.mem_cons.mp hq with e2 | hq1
      · rw [e1, e2]
      · exact absurd (List.mem_map.mpr ⟨q, hq1, by rw [← e, e1]⟩) nd2.1
    · rcases List.mem_cons.mp hq with e2 | hq1
      · exact absurd (List.mem_map.mpr ⟨p, hp1, by rw [e, e2]⟩) nd2.1
      · exact nodup_snd_inj nd2.2 hp1 hq1 e
theorem orderBy_ord {n : Nat} {rs : List (List Nat)} (c : Cover n rs) : IsOrd (orderBy rs) ∧ Parts (orderBy rs) rs := by
  have hl : (orderBy rs).length = n := by rw [orderBy_length, c.len]
  have at_ : ∀ x, x < n → ∃ p ∈ rs.flatMap pairs, p.1 = x := by
    intro x hx
    have hx2 : x ∈ (rs.flatMap pairs).map (·.1) := (flat_fst rs c.ne).mem_iff.mpr (c.perm.mem_iff.mpr (List.mem_range.mpr hx))
    obtain ⟨p, hp, e⟩ := List.mem_map.mp hx2
    exact ⟨p, hp, e⟩
  have nd2 : ((rs.flatMap pairs).map (·.2)).Nodup := by rw [flat_snd]; exact c.nd
  refine ⟨⟨fun x hx => ?_, fun x y hx hy e => ?_⟩, ⟨by rw [hl]; exact c.perm, c.ne, fun r hr => ?_⟩⟩
  · rw [hl] at hx ⊢
    obtain ⟨p, hp, rfl⟩ := at_ x hx
    rw [orderBy_at c hp]
    have : p.2 ∈ rs.flatten := by
      rw [← flat_snd]
      exact List.mem_map.mpr ⟨p, hp, rfl⟩
    simpa using c.perm.mem_iff.mp this
  · rw [hl] at hx hy
    obtain ⟨p, hp, rfl⟩ := at_ x hx
    obtain ⟨q, hq, rfl⟩ := at_ y hy
    rw [orderBy_at c hp, orderBy_at c hq] at e
    rw [nodup_snd_inj nd2 hp hq e]
  · exact pathR (c.ne r hr) fun p hp => orderBy_at c (List.mem_flatMap.mpr ⟨r, hr, hp⟩)

/-! ### rings as they are told -/
inductive Canon : List Nat → List (List Nat) → Prop
  | nil : Canon [] []
  | cons {first : Nat} {left line : List Nat} {rs : List (List Nat)} (nd : line.Nodup) (sub : ∀ x ∈ line, x ∈ left) (h : Canon (left.filter fun b => decide (b ∉ line)) rs) : Canon (first :: left) ((first :: line) :: rs)
theorem split_perm {left line : List Nat} (hl : left.Nodup) (nd : line.Nodup) (sub : ∀ x ∈ line, x ∈ left) : (line ++ left.filter fun b => decide (b ∉ line)).Perm left := by
  have nf : (left.filter fun b => decide (b ∉ line)).Nodup := hl.sublist List.filter_sublist
  refine (List.perm_ext_iff_of_nodup (List.nodup_append.mpr ⟨nd, nf, fun a ha b hb e => ?_⟩) hl).mpr fun a => ⟨fun h => ?_, fun h => ?_⟩
  · subst e
    have := (List.mem_filter.mp hb).2
    simp at this
    exact this ha
  · rcases List.mem_append.mp h with h | h
    · exact sub a h
    · exact (List.mem_filter.mp h).1
  · by_cases ha : a ∈ line
    · exact List.mem_append_left _ ha
    · exact List.mem_append_right _ (List.mem_filter.mpr ⟨h, by simpa using ha⟩)
theorem Canon.perm {left : List Nat} {rs : List (List Nat)} (c : Canon left rs) : left.Nodup → rs.flatten.Perm left := by
  induction c with
  | nil => intro _; simp
  | @cons first left line rs nd sub h ih =>
    intro hl
    have hl2 : left.Nodup := (List.nodup_cons.mp hl).2
    rw [List.flatten_cons, List.cons_append]
    refine List.Perm.cons _ ?_
    exact (List.Perm.append_left line (ih (hl2.sublist List.filter_sublist))).trans (split_perm hl2 nd sub)
theorem Canon.ne {left : List Nat} {rs : List (List Nat)} (c : Canon left rs) : ∀ r ∈ rs, r ≠ [] := by
  induction c with
  | nil => intro r hr; simp at hr
  | cons nd sub h ih =>
    intro r hr
    rcases List.mem_cons.mp hr with rfl | hr
    · simp
    · exact ih r hr
theorem ringsGo_canon {o : List Nat} : ∀ (bs met : List Nat) (rs : List (List Nat)), bs.Nodup → Canon (bs.filter fun b => decide (b ∉ met)) rs → (∀ r ∈ rs, Path o r (r.headD 0) ∧ r.length ≤ o.length) → ringsGo o bs met = rs
  | [], met, rs, _, c, _ => by
    cases c
    rfl
  | b :: bs, met, rs, nd, c, hp => by
    have nd2 := List.nodup_cons.mp nd
    by_cases hb : b ∈ met
    · show (if b ∈ met then ringsGo o bs met else _) = rs
      rw [if_pos hb]
      have e : (b :: bs).filter (fun b => decide (b ∉ met)) = bs.filter (fun b => decide (b ∉ met)) := List.filter_cons_of_neg (by simpa using hb)
      rw [e] at c
      exact ringsGo_canon bs met rs nd2.2 c hp
    · show (if b ∈ met then ringsGo o bs met else ring o b :: ringsGo o bs (met ++ ring o b)) = rs
      rw [if_neg hb]
      have e : (b :: bs).filter (fun b => decide (b ∉ met)) = b :: bs.filter (fun b => decide (b ∉ met)) := List.filter_cons_of_pos (by simpa using hb)
      rw [e] at c
      cases c with
      | @cons _ _ line rs' ndl sub c' =>
        have hr := hp _ List.mem_cons_self
        have hbl : b ∉ line := fun z => nd2.1 (List.mem_filter.mp (sub b z)).1
        have er : ring o b = b :: line := ring_unique hr.1 hbl (by have := hr.2; simp at this; omega)
        rw [er]
        congr 1
        refine ringsGo_canon bs _ rs' nd2.2 ?_ fun r h => hp r (List.mem_cons_of_mem _ h)
        have ef : (bs.filter fun x => decide (x ∉ met ++ b :: line)) = (bs.filter fun x => decide (x ∉ met)).filter fun x => decide (x ∉ line) := by
          rw [List.filter_filter]
          apply List.filter_congr
          intro x hx
          have : x ≠ b := fun z => nd2.1 (z ▸ hx)
          simp [this, Bool.and_comm]
        rw [ef]
        exact c'
theorem rings_canon {n : Nat} {rs : List (List Nat)} (c : Canon (List.range n) rs) : IsOrd (orderBy rs) ∧ rings (orderBy rs) = rs ∧ (orderBy rs).length = n := by
  have cov : Cover n rs := ⟨c.perm List.nodup_range, c.ne⟩
  obtain ⟨h1, h2⟩ := orderBy_ord cov
  have hl : (orderBy rs).length = n := by rw [orderBy_length, cov.len]
  refine ⟨h1, ?_, hl⟩
  unfold rings
  refine ringsGo_canon _ _ _ List.nodup_range ?_ fun r hr => ⟨h2.path r hr, ?_⟩
  · rw [hl]
    have : ((List.range n).filter fun b => decide (b ∉ ([] : List Nat))) = List.range n := List.filter_eq_self.mpr (by simp)
    rw [this]
    exact c
  · rw [hl, ← cov.len]
    exact (List.sublist_flatten_of_mem hr).length_le
end Obx
set_option maxHeartbeats 4000000
set_option maxHeartbeats 1000000
/-! Counting and numbering, in plain Lean. -/
namespace Obx

def fact : Nat → Nat
  | 0 => 1
  | n + 1 => (n + 1) * fact n
theorem fact_pos : ∀ n, 0 < fact n
  | 0 => by decide
  | n + 1 => Nat.mul_pos (Nat.succ_pos n) (fact_pos n)
theorem fact_mono {m n : Nat} (h : m ≤ n) : fact m ≤ fact n := by
  induction n with
  | zero =>
    have : m = 0 := by omega
    subst this
    exact Nat.le_refl _
  | succ n ih =>
    by_cases e : m = n + 1
    · subst e; exact Nat.le_refl _
    · refine Nat.le_trans (ih (by omega)) ?_
      show fact n ≤ (n + 1) * fact n
      exact Nat.le_mul_of_pos_left _ (Nat.succ_pos n)
theorem fact40 {n : Nat} (h : n ≤ 40) : fact n < 2 ^ 160 := Nat.lt_of_le_of_lt (fact_mono h) (by decide)
/-- how many lines of s out of m -/
def dfac (m : Nat) : Nat → Nat
  | 0 => 1
  | s + 1 => dfac m s * (m - s)
theorem dfac_fact : ∀ (m s : Nat), s ≤ m → dfac m s * fact (m - s) = fact m
  | m, 0, _ => by simp [dfac]
  | m, s + 1, h => by
    have ih := dfac_fact m s (by omega)
    obtain ⟨d, hd⟩ : ∃ d, m - s = d + 1 := ⟨m - s - 1, by omega⟩
    have e : m - (s + 1) = d := by omega
    rw [hd] at ih
    show dfac m s * (m - s) * fact (m - (s + 1)) = fact m
    rw [hd, e, Nat.mul_assoc]
    exact ih
theorem dfac_le {m s : Nat} (h : s ≤ m) : dfac m s ≤ fact m := by
  rw [← dfac_fact m s h]
  exact Nat.le_mul_of_pos_right _ (fact_pos _)
theorem dfac_pos {m s : Nat} (h : s ≤ m) : 0 < dfac m s := by
  apply Nat.pos_of_ne_zero
  intro e
  have := dfac_fact m s h
  rw [e, Nat.zero_mul] at this
  exact absurd this.symm (Nat.pos_iff_ne_zero.mp (fact_pos m))
theorem dfac_zero {m s : Nat} (h : m < s) : dfac m s = 0 := by
  induction s with
  | zero => omega
  | succ s ih =>
    show dfac m s * (m - s) = 0
    by_cases e : m < s
    · rw [ih e, Nat.zero_mul]
    · have : m - s = 0 := by omega
      rw [this, Nat.mul_zero]
theorem dfac_succ : ∀ (m s : Nat), dfac (m + 1) (s + 1) = (m + 1) * dfac m s
  | m, 0 => by simp [dfac]
  | m, s + 1 => by
    show dfac (m + 1) (s + 1) * (m + 1 - (s + 1)) = (m + 1) * (dfac m s * (m - s))
    rw [dfac_succ m s, Nat.mul_assoc]
    congr 2
    omega
theorem dfac_add : ∀ (m s t : Nat), dfac m (s + t) = dfac m s * dfac (m - s) t
  | m, s, 0 => by simp [dfac]
  | m, s, t + 1 => by
    show dfac m (s + t) * (m - (s + t)) = dfac m s * (dfac (m - s) t * (m - s - t))
    rw [dfac_add m s t, Nat.mul_assoc, Nat.sub_sub]

/-! ### orders by rings of lo to hi boxes -/
def tot (lo hi : Nat) (F : Nat → Nat) (many : Nat) : Nat → Nat
  | 0 => 0
  | i + 1 => tot lo hi F many i + (if lo ≤ i + 1 ∧ i + 1 ≤ hi then dfac (many - 1) i * F (many - (i + 1)) else 0)
def gl (lo hi : Nat) : Nat → List Nat
  | 0 => [1]
  | m + 1 => gl lo hi m ++ [tot lo hi (fun j => (gl lo hi m).getD j 0) (m + 1) (m + 1)]
def gg (lo hi m : Nat) : Nat := (gl lo hi m).getD m 0
theorem gl_length (lo hi : Nat) : ∀ m, (gl lo hi m).length = m + 1
  | 0 => rfl
  | m + 1 => by
    show (gl lo hi m ++ [_]).length = _
    rw [List.length_append, gl_length lo hi m]
    rfl
theorem gl_at (lo hi : Nat) : ∀ (n m : Nat), m ≤ n → (gl lo hi n).getD m 0 = gg lo hi m
  | 0, m, h => by
    have : m = 0 := by omega
    subst this
    rfl
  | n + 1, m, h => by
    by_cases e : m = n + 1
    · subst e; rfl
    · rw [← gl_at lo hi n m (by omega)]
      show (gl lo hi n ++ [_]).getD m 0 = _
      rw [List.getD_eq_getElem?_getD, List.getD_eq_getElem?_getD, List.getElem?_append_left (by rw [gl_length]; omega)]
theorem gl_get (lo hi : Nat) {n m : Nat} (h : m ≤ n) : (gl lo hi n)[m]? = some (gg lo hi m) := by
  rw [← gl_at lo hi n m h, List.getD_eq_getElem?_getD, List.getElem?_eq_getElem (by rw [gl_length]; omega)]
  rfl
theorem tot_congr {lo hi : Nat} {F F' : Nat → Nat} {many : Nat} (h : ∀ j, j < many → F j = F' j) : ∀ i, i ≤ many → tot lo hi F many i = tot lo hi F' many i
  | 0, _ => rfl
  | i + 1, hi' => by
    show tot lo hi F many i + _ = tot lo hi F' many i + _
    rw [tot_congr h i (by omega), h _ (by omega)]
theorem gg_zero (lo hi : Nat) : gg lo hi 0 = 1 := rfl
theorem gg_succ (lo hi m : Nat) : gg lo hi (m + 1) = tot lo hi (gg lo hi) (m + 1) (m + 1) := by
  have e : gg lo hi (m + 1) = tot lo hi (fun j => (gl lo hi m).getD j 0) (m + 1) (m + 1) := by
    unfold gg
    show (gl lo hi m ++ [_]).getD (m + 1) 0 = _
    rw [List.getD_eq_getElem?_getD, List.getElem?_append_right (by rw [gl_length]; omega), gl_length, Nat.sub_self]
    rfl
  rw [e]
  exact tot_congr (fun j hj => gl_at lo hi m j (by omega)) _ (Nat.le_refl _)
theorem tot_bound {lo hi : Nat} {F : Nat → Nat} {m : Nat} (h : ∀ j, j ≤ m → F j ≤ fact j) : ∀ i, i ≤ m + 1 → tot lo hi F (m + 1) i ≤ i * fact m
  | 0, _ => by simp [tot]
  | i + 1, hi' => by
    show tot lo hi F (m + 1) i + _ ≤ _
    have ih := tot_bound (lo := lo) (hi := hi) h i (by omega)
    have b : (if lo ≤ i + 1 ∧ i + 1 ≤ hi then dfac (m + 1 - 1) i * F (m + 1 - (i + 1)) else 0) ≤ fact m := by
      by_cases c : lo ≤ i + 1 ∧ i + 1 ≤ hi
      · rw [if_pos c]
        have e := dfac_fact m i (by omega)
        rw [← e, show m + 1 - (i + 1) = m - i by omega, Nat.add_sub_cancel]
        exact Nat.mul_le_mul_left _ (h _ (by omega))
      · rw [if_neg c]; exact Nat.zero_le _
    rw [Nat.add_mul, Nat.one_mul]
    omega
theorem gg_le (lo hi : Nat) : ∀ (n m : Nat), m ≤ n → gg lo hi m ≤ fact m
  | 0, m, h => by
    have : m = 0 := by omega
    subst this
    exact Nat.le_refl _
  | n + 1, m, h => by
    by_cases e : m = n + 1
    · subst e
      rw [gg_succ]
      exact tot_bound (fun j hj => gg_le lo hi n j hj) (n + 1) (Nat.le_refl _)
    · exact gg_le lo hi n m (by omega)
theorem gg_fact (lo hi m : Nat) : gg lo hi m ≤ fact m := gg_le lo hi m m (Nat.le_refl _)
theorem tot_mono {lo hi : Nat} {F : Nat → Nat} {many : Nat} {i j : Nat} (h : i ≤ j) : tot lo hi F many i ≤ tot lo hi F many j := by
  induction j with
  | zero =>
    have : i = 0 := by omega
    subst this
    exact Nat.le_refl _
  | succ j ih =>
    by_cases e : i = j + 1
    · subst e; exact Nat.le_refl _
    · exact Nat.le_trans (ih (by omega)) (Nat.le_add_right _ _)
theorem tot_past {lo hi : Nat} {F : Nat → Nat} {many i j : Nat} (h : hi ≤ i) (hij : i ≤ j) : tot lo hi F many j = tot lo hi F many i := by
  induction j with
  | zero =>
    have : i = 0 := by omega
    subst this
    rfl
  | succ j ih =>
    by_cases e : i = j + 1
    · subst e; rfl
    · show tot lo hi F many j + (if lo ≤ j + 1 ∧ j + 1 ≤ hi then _ else 0) = _
      rw [if_neg (by omega), ih (by omega)]
      rfl
/-- good orders for k -/
abbrev G (k : Nat) : Nat → Nat := gg 1 k
theorem G_pos {k : Nat} (hk : 1 ≤ k) : ∀ m, 0 < G k m
  | 0 => Nat.zero_lt_one
  | m + 1 => by
    show 0 < gg 1 k (m + 1)
    rw [gg_succ]
    have h1 : tot 1 k (gg 1 k) (m + 1) 1 ≤ tot 1 k (gg 1 k) (m + 1) (m + 1) := tot_mono (by omega)
    have h2 : tot 1 k (gg 1 k) (m + 1) 1 = gg 1 k m := by
      show 0 + (if 1 ≤ 0 + 1 ∧ 0 + 1 ≤ k then dfac (m + 1 - 1) 0 * gg 1 k (m + 1 - (0 + 1)) else 0) = gg 1 k m
      rw [if_pos ⟨by omega, by omega⟩]
      show 0 + 1 * gg 1 k (m + 1 - 1) = _
      rw [Nat.add_sub_cancel]
      omega
    have := G_pos hk m
    have : 0 < gg 1 k m := this
    omega

/-! ### a line by its number -/
def lineAt : List Nat → Nat → Nat → List Nat
  | _, 0, _ => []
  | left, s + 1, num => left.getD (num / dfac (left.length - 1) s) 0 :: lineAt (left.eraseIdx (num / dfac (left.length - 1) s)) s (num % dfac (left.length - 1) s)
def lineNo : List Nat → List Nat → Nat
  | _, [] => 0
  | left, b :: l => left.idxOf b * dfac (left.length - 1) l.length + lineNo (left.eraseIdx (left.idxOf b)) l
theorem dfac_step {m s : Nat} (h : 1 ≤ m) : dfac m (s + 1) = m * dfac (m - 1) s := by
  obtain ⟨d, rfl⟩ : ∃ d, m = d + 1 := ⟨m - 1, by omega⟩
  rw [dfac_succ, Nat.add_sub_cancel]
theorem nodup_idxOf {l : List Nat} (h : l.Nodup) {i : Nat} (hi : i < l.length) : l.idxOf l[i] = i := by
  have hm : l[i] ∈ l := List.getElem_mem hi
  have h1 : l.idxOf l[i] < l.length := List.idxOf_lt_length_of_mem hm
  have h2 : l[l.idxOf l[i]] = l[i] := List.getElem_idxOf h1
  exact (List.getElem_inj h).mp h2
theorem mem_eraseIdx_ne {l : List Nat} (h : l.Nodup) {i : Nat} (hi : i < l.length) {x : Nat} (hx : x ∈ l.eraseIdx i) : x ∈ l ∧ x ≠ l[i] := by
  refine ⟨List.mem_of_mem_eraseIdx hx, fun e => ?_⟩
  rw [List.mem_eraseIdx_iff_getElem] at hx
  obtain ⟨j, hj, hne, e2⟩ := hx
  have : l[j] = l[i] := e2.trans e
  exact hne ((List.getElem_inj h).mp this)
structure LineOk (left line : List Nat) (s num : Nat) : Prop where
  len : line.length = s
  nd : line.Nodup
  sub : ∀ x ∈ line, x ∈ left
  back : lineNo left line = num
theorem lineAt_step {left : List Nat} {s num : Nat} (hs : s + 1 ≤ left.length) (hn : num < dfac left.length (s + 1)) :
    0 < dfac (left.length - 1) s ∧ num / dfac (left.length - 1) s < left.length ∧ num % dfac (left.length - 1) s < dfac (left.length - 1) s := by
  have hp : 0 < dfac (left.length - 1) s := dfac_pos (by omega)
  refine ⟨hp, ?_, Nat.mod_lt _ hp⟩
  rw [dfac_step (by omega)] at hn
  exact (Nat.div_lt_iff_lt_mul hp).mpr hn
theorem lineAt_ok : ∀ (s : Nat) (left : List Nat) (num : Nat), left.Nodup → s ≤ left.length → num < dfac left.length s → LineOk left (lineAt left s num) s num
  | 0, left, num, _, _, hn => by
    have : num = 0 := by
      have : dfac left.length 0 = 1 := rfl
      omega
    subst this
    exact ⟨rfl, List.nodup_nil, by simp [lineAt], rfl⟩
  | s + 1, left, num, hl, hs, hn => by
    obtain ⟨hp, hi, hr⟩ := lineAt_step hs hn
    have hle : (left.eraseIdx (num / dfac (left.length - 1) s)).length = left.length - 1 := List.length_eraseIdx_of_lt hi
    have ih := lineAt_ok s (left.eraseIdx (num / dfac (left.length - 1) s)) (num % dfac (left.length - 1) s) (hl.eraseIdx _) (by omega) (by rw [hle]; exact hr)
    have eg : left.getD (num / dfac (left.length - 1) s) 0 = left[num / dfac (left.length - 1) s] := by
      rw [List.getD_eq_getElem?_getD, List.getElem?_eq_getElem hi]; rfl
    show LineOk left (left.getD (num / dfac (left.length - 1) s) 0 :: lineAt (left.eraseIdx (num / dfac (left.length - 1) s)) s (num % dfac (left.length - 1) s)) (s + 1) num
    rw [eg]
    refine ⟨by simp [ih.len], List.nodup_cons.mpr ⟨fun z => (mem_eraseIdx_ne hl hi (ih.sub _ z)).2 rfl, ih.nd⟩, fun x hx => ?_, ?_⟩
    · rcases List.mem_cons.mp hx with e | hx
      · rw [e]; exact List.getElem_mem hi
      · exact (mem_eraseIdx_ne hl hi (ih.sub x hx)).1
    · show left.idxOf left[num / dfac (left.length - 1) s] * dfac (left.length - 1) _ + lineNo _ _ = num
      rw [nodup_idxOf hl hi, ih.len, ih.back, Nat.mul_comm]
      exact Nat.div_add_mod _ _

/-! ### good orders by number -/
/-- how many boxes the first ring has, and what is left of the number -/
def findB (F : Nat → Nat) (m : Nat) : Nat → Nat → Nat → Nat × Nat
  | 0, b, x => (b, x)
  | f + 1, b, x => if dfac m (b - 1) * F (m + 1 - b) ≤ x then findB F m f (b + 1) (x - dfac m (b - 1) * F (m + 1 - b)) else (b, x)
structure FindOk (k m b x num : Nat) : Prop where
  pos : 1 ≤ b
  hk : b ≤ k
  hm : b ≤ m + 1
  lt : x < dfac m (b - 1) * G k (m + 1 - b)
  sum : tot 1 k (G k) (m + 1) (b - 1) + x = num
/-- what holds at each turn of the search -/
structure FindAt (k m b x num : Nat) : Prop where
  pos : 1 ≤ b
  hk : b ≤ k
  hm : b ≤ m + 1
  sum : tot 1 k (G k) (m + 1) (b - 1) + x = num
theorem FindAt.step {k m b x num : Nat} (h : FindAt k m b x num) (hn : num < G k (m + 1)) (c : dfac m (b - 1) * G k (m + 1 - b) ≤ x) : FindAt k m (b + 1) (x - dfac m (b - 1) * G k (m + 1 - b)) num := by
  obtain ⟨h1, h2, h3, h4⟩ := h
  obtain ⟨i, rfl⟩ : ∃ i, b = i + 1 := ⟨b - 1, by omega⟩
  rw [Nat.add_sub_cancel] at c h4 ⊢
  have e : tot 1 k (G k) (m + 1) (i + 1) = tot 1 k (G k) (m + 1) i + dfac m i * G k (m + 1 - (i + 1)) := by
    show tot 1 k (G k) (m + 1) i + (if 1 ≤ i + 1 ∧ i + 1 ≤ k then dfac (m + 1 - 1) i * G k (m + 1 - (i + 1)) else 0) = _
    rw [if_pos ⟨by omega, h2⟩, Nat.add_sub_cancel]
  have s : tot 1 k (G k) (m + 1) (i + 1) + (x - dfac m i * G k (m + 1 - (i + 1))) = num := by omega
  have t : tot 1 k (G k) (m + 1) (i + 1) < tot 1 k (G k) (m + 1) (m + 1) := by
    have : G k (m + 1) = tot 1 k (G k) (m + 1) (m + 1) := gg_succ 1 k m
    omega
  refine ⟨by omega, ?_, ?_, by rw [Nat.add_sub_cancel]; exact s⟩
  · apply Classical.byContradiction
    intro q
    rw [tot_past (show k ≤ i + 1 by omega) h3] at t
    omega
  · apply Classical.byContradiction
    intro q
    have : i + 1 = m + 1 := by omega
    rw [this] at t
    omega
theorem findB_ok {k m num : Nat} (hn : num < G k (m + 1)) : ∀ (f b x : Nat), FindAt k m b x num → m + 2 ≤ f + b → FindOk k m (findB (G k) m f b x).1 (findB (G k) m f b x).2 num
  | 0, b, x, h, hf => by
    have := h.hm
    omega
  | f + 1, b, x, h, hf => by
    show FindOk k m (if _ then _ else _ : Nat × Nat).1 (if _ then _ else _ : Nat × Nat).2 num
    by_cases c : dfac m (b - 1) * G k (m + 1 - b) ≤ x
    · rw [if_pos c]
      exact findB_ok hn f (b + 1) _ (h.step hn c) (by omega)
    · rw [if_neg c]
      exact ⟨h.pos, h.hk, h.hm, Nat.lt_of_not_le c, h.sum⟩
theorem findAt_start {k m num : Nat} (hk : 1 ≤ k) : FindAt k m 1 num num := ⟨Nat.le_refl _, hk, by omega, by show 0 + num = num; omega⟩
abbrev found (k m num : Nat) : Nat × Nat := findB (G k) m (m + 1) 1 num
theorem found_ok {k m num : Nat} (hk : 1 ≤ k) (hn : num < G k (m + 1)) : FindOk k m (found k m num).1 (found k m num).2 num := findB_ok hn _ 1 num (findAt_start hk) (by omega)

/-- the line of the first ring behind its least box -/
def gLine (k : Nat) (left : List Nat) (num : Nat) : List Nat := lineAt left ((found k left.length num).1 - 1) ((found k left.length num).2 / G k (left.length + 1 - (found k left.length num).1))
def gRest (k m num : Nat) : Nat := (found k m num).2 % G k (m + 1 - (found k m num).1)
def goodRings (k : Nat) : Nat → List Nat → Nat → List (List Nat)
  | 0, _, _ => []
  | _ + 1, [], _ => []
  | f + 1, first :: left, num => (first :: gLine k left num) :: goodRings k f (left.filter fun b => decide (b ∉ gLine k left num)) (gRest k left.length num)
def goodNo (k : Nat) : List (List Nat) → List Nat → Nat
  | [], _ => 0
  | r :: rs, left => tot 1 k (G k) (left.tail.length + 1) (r.length - 1) + lineNo left.tail r.tail * G k (left.tail.length + 1 - r.length) + goodNo k rs (left.tail.filter fun b => decide (b ∉ r))
theorem gLine_ok {k : Nat} {left : List Nat} {num : Nat} (hk : 1 ≤ k) (hl : left.Nodup) (hn : num < G k (left.length + 1)) :
    FindOk k left.length (found k left.length num).1 (found k left.length num).2 num ∧ 0 < G k (left.length + 1 - (found k left.length num).1) ∧
    LineOk left (gLine k left num) ((found k left.length num).1 - 1) ((found k left.length num).2 / G k (left.length + 1 - (found k left.length num).1)) := by
  have F := found_ok hk hn
  have hp := G_pos hk (left.length + 1 - (found k left.length num).1)
  refine ⟨F, hp, lineAt_ok _ _ _ hl (by have := F.hm; omega) ?_⟩
  exact (Nat.div_lt_iff_lt_mul hp).mpr F.lt
theorem gRest_lt {k m num : Nat} (hk : 1 ≤ k) : gRest k m num < G k (m + 1 - (found k m num).1) := Nat.mod_lt _ (G_pos hk _)
theorem filter_len {left line : List Nat} (hl : left.Nodup) (nd : line.Nodup) (sub : ∀ x ∈ line, x ∈ left) : (left.filter fun b => decide (b ∉ line)).length = left.length - line.length := by
  have := (split_perm hl nd sub).length_eq
  rw [List.length_append] at this
  omega
theorem good_ok {k : Nat} (hk : 1 ≤ k) : ∀ (f : Nat) (left : List Nat) (num : Nat), left.Nodup → left.length ≤ f → num < G k left.length →
    Canon left (goodRings k f left num) ∧ (∀ r ∈ goodRings k f left num, r.length ≤ k) ∧ goodNo k (goodRings k f left num) left = num
  | 0, left, num, hl, hf, hn => by
    have : left = [] := List.length_eq_zero_iff.mp (by omega)
    subst this
    have : num < 1 := hn
    have : num = 0 := by omega
    subst this
    exact ⟨.nil, by simp [goodRings], rfl⟩
  | f + 1, [], num, hl, hf, hn => by
    have : num < 1 := hn
    have : num = 0 := by omega
    subst this
    exact ⟨.nil, by simp [goodRings], rfl⟩
  | f + 1, first :: left, num, hl, hf, hn => by
    have hl1 := List.nodup_cons.mp hl
    obtain ⟨F, hp, L⟩ := gLine_ok hk hl1.2 (num := num) hn
    have hlen := filter_len hl1.2 L.nd L.sub
    rw [L.len] at hlen
    have em : left.length + 1 - (found k left.length num).1 = (left.filter fun b => decide (b ∉ gLine k left num)).length := by
      have := F.pos
      have := F.hm
      omega
    have hr := gRest_lt (m := left.length) (num := num) hk
    rw [em] at hr
    obtain ⟨i1, i2, i3⟩ := good_ok hk f (left.filter fun b => decide (b ∉ gLine k left num)) (gRest k left.length num) (hl1.2.sublist List.filter_sublist) (by
      have := List.length_filter_le (fun b => decide (b ∉ gLine k left num)) left
      simp at hf
      omega) hr
    have hrl : (first :: gLine k left num).length = (found k left.length num).1 := by
      rw [List.length_cons, L.len]
      have := F.pos
      omega
    refine ⟨.cons L.nd L.sub i1, fun r hr => ?_, ?_⟩
    · rcases List.mem_cons.mp hr with e | hr
      · rw [e, hrl]; exact F.hk
      · exact i2 r hr
    · show tot 1 k (G k) (left.length + 1) ((first :: gLine k left num).length - 1) + lineNo left (gLine k left num) * G k (left.length + 1 - (first :: gLine k left num).length) + goodNo k (goodRings k f _ _) (left.filter fun b => decide (b ∉ first :: gLine k left num)) = num
      have ef : (left.filter fun b => decide (b ∉ first :: gLine k left num)) = left.filter fun b => decide (b ∉ gLine k left num) := by
        apply List.filter_congr
        intro x hx
        have : x ≠ first := fun z => hl1.1 (z ▸ hx)
        simp [this]
      rw [hrl, L.back, ef, i3]
      have hs := F.sum
      have hd := Nat.div_add_mod (found k left.length num).2 (G k (left.length + 1 - (found k left.length num).1))
      unfold gRest
      rw [Nat.mul_comm] at hd
      omega
end Obx
set_option maxHeartbeats 4000000
set_option maxHeartbeats 1000000
/-! All openings: places in rings begun, in plain Lean. -/
namespace Obx

def addAt (l : List Nat) (i v : Nat) : List Nat := l.set i (l.getD i 0 + v)
/-- a ring of 1 to c boxes is begun -/
def spread (l : List Nat) (free ways : Nat) : Nat → List Nat
  | 0 => l
  | c + 1 => addAt (spread l free ways c) (free + c) ways
def placed (acc : List Nat) (free ways : Nat) : List Nat := if 0 < free then addAt acc (free - 1) (free * ways) else acc
def oneTurn (left most : Nat) (acc : List Nat) (free ways : Nat) : List Nat := spread (placed acc free ways) free ways (min most (left + 1 - free))
def oneGo (left most : Nat) : List Nat → Nat → List Nat → List Nat
  | acc, _, [] => acc
  | acc, free, w :: ws => oneGo left most (oneTurn left most acc free w) (free + 1) ws
def oneMore (begun : List Nat) (left most : Nat) : List Nat := oneGo left most (List.replicate (left + 1) 0) 0 begun
def manyGo (n : Nat) : List Nat → Nat → List Nat → List Nat
  | begun, _, [] => begun
  | begun, a, m :: ms => manyGo n (oneMore begun (n - a - 1) m) (a + 1) ms
def manyAll (s : List Nat) : Nat := (manyGo s.length [1] 0 s).getD 0 0

theorem addAt_length (l : List Nat) (i v : Nat) : (addAt l i v).length = l.length := by unfold addAt; rw [List.length_set]
theorem spread_length (l : List Nat) (free ways : Nat) : ∀ c, (spread l free ways c).length = l.length
  | 0 => rfl
  | c + 1 => by
    show (addAt (spread l free ways c) _ _).length = _
    rw [addAt_length, spread_length l free ways c]
theorem placed_length (l : List Nat) (free ways : Nat) : (placed l free ways).length = l.length := by
  unfold placed; split
  · rw [addAt_length]
  · rfl
theorem oneTurn_length (left most : Nat) (acc : List Nat) (free ways : Nat) : (oneTurn left most acc free ways).length = acc.length := by
  unfold oneTurn; rw [spread_length, placed_length]
theorem oneGo_length (left most : Nat) : ∀ (ws acc : List Nat) (free : Nat), (oneGo left most acc free ws).length = acc.length
  | [], _, _ => rfl
  | w :: ws, acc, free => by
    show (oneGo left most _ _ ws).length = _
    rw [oneGo_length left most ws, oneTurn_length]
theorem oneMore_length (begun : List Nat) (left most : Nat) : (oneMore begun left most).length = left + 1 := by
  unfold oneMore; rw [oneGo_length, List.length_replicate]

/-! ### how many ways go on -/
def Vf (k t f : Nat) : Nat := if f ≤ t then dfac t f * G k (t - f) else 0
def phi (k t : Nat) : Nat → List Nat → Nat
  | _, [] => 0
  | j, x :: l => x * Vf k t j + phi k t (j + 1) l
theorem phi_zero (k t : Nat) : ∀ (n j : Nat), phi k t j (List.replicate n 0) = 0
  | 0, _ => rfl
  | n + 1, j => by
    show 0 * _ + phi k t (j + 1) (List.replicate n 0) = 0
    rw [phi_zero k t n, Nat.zero_mul]
theorem phi_set (k t : Nat) : ∀ (l : List Nat) (j i v : Nat), i < l.length → phi k t j (l.set i (l.getD i 0 + v)) = phi k t j l + v * Vf k t (j + i)
  | [], _, _, _, h => by simp at h
  | x :: l, j, 0, v, _ => by
    show (x + v) * Vf k t j + phi k t (j + 1) l = x * Vf k t j + phi k t (j + 1) l + v * Vf k t j
    rw [Nat.add_mul]
    omega
  | x :: l, j, i + 1, v, h => by
    have ih := phi_set k t l (j + 1) i v (by simpa using h)
    show x * Vf k t j + phi k t (j + 1) (l.set i (l.getD i 0 + v)) = x * Vf k t j + phi k t (j + 1) l + v * Vf k t (j + (i + 1))
    rw [ih, show j + 1 + i = j + (i + 1) by omega]
    omega
theorem phi_addAt (k t : Nat) {l : List Nat} {i v : Nat} (h : i < l.length) : phi k t 0 (addAt l i v) = phi k t 0 l + v * Vf k t i := by
  unfold addAt
  rw [phi_set k t l 0 i v h, Nat.zero_add]
def vsum (k t free : Nat) : Nat → Nat
  | 0 => 0
  | c + 1 => vsum k t free c + Vf k t (free + c)
theorem phi_spread (k t : Nat) (l : List Nat) (free ways : Nat) : ∀ c, free + c ≤ l.length → phi k t 0 (spread l free ways c) = phi k t 0 l + ways * vsum k t free c
  | 0, _ => by simp [spread, vsum]
  | c + 1, h => by
    show phi k t 0 (addAt (spread l free ways c) (free + c) ways) = phi k t 0 l + ways * (vsum k t free c + Vf k t (free + c))
    rw [phi_addAt k t (by rw [spread_length]; omega), phi_spread k t l free ways c (by omega), Nat.mul_add]
    omega
/-- the counts of rings as one more comes -/
theorem vsum_tot (k t f : Nat) (hf : f ≤ t) : ∀ c, c ≤ k → c ≤ t + 1 - f → vsum k t f c = dfac t f * tot 1 k (G k) (t + 1 - f) c
  | 0, _, _ => by simp [vsum, tot]
  | c + 1, hk, hc => by
    show vsum k t f c + Vf k t (f + c) = dfac t f * (tot 1 k (G k) (t + 1 - f) c + (if 1 ≤ c + 1 ∧ c + 1 ≤ k then dfac (t + 1 - f - 1) c * G k (t + 1 - f - (c + 1)) else 0))
    rw [vsum_tot k t f hf c (by omega) (by omega), if_pos ⟨by omega, hk⟩, Nat.mul_add]
    congr 1
    unfold Vf
    rw [if_pos (by omega), dfac_add, Nat.mul_assoc, show t + 1 - f - 1 = t - f by omega, show t + 1 - f - (c + 1) = t - (f + c) by omega]
theorem dfac_pascal (t f : Nat) (hf : f ≤ t) : dfac (t + 1) (f + 1) = dfac t (f + 1) + (f + 1) * dfac t f := by
  rw [dfac_succ]
  show (t + 1) * dfac t f = dfac t f * (t - f) + (f + 1) * dfac t f
  rw [Nat.mul_comm (dfac t f), ← Nat.add_mul]
  congr 1
  omega
theorem Vf_step (k t f : Nat) (hf : f ≤ t + 1) : Vf k (t + 1) f = f * Vf k t (f - 1) + vsum k t f (min k (t + 1 - f)) := by
  by_cases e : f = t + 1
  · subst e
    rw [Nat.sub_self, Nat.min_zero]
    show Vf k (t + 1) (t + 1) = (t + 1) * Vf k t (t + 1 - 1) + 0
    unfold Vf
    rw [if_pos (Nat.le_refl _), if_pos (by omega), Nat.add_sub_cancel, dfac_succ, Nat.sub_self, Nat.sub_self, Nat.mul_assoc]
    rfl
  · have hft : f ≤ t := by omega
    obtain ⟨m, hm⟩ : ∃ m, t + 1 - f = m + 1 := ⟨t - f, by omega⟩
    have e1 : vsum k t f (min k (t + 1 - f)) = dfac t f * G k (t + 1 - f) := by
      rw [vsum_tot k t f hft _ (Nat.min_le_left _ _) (Nat.min_le_right _ _)]
      congr 1
      rw [hm]
      show _ = gg 1 k (m + 1)
      rw [gg_succ]
      by_cases c : k ≤ m + 1
      · rw [Nat.min_eq_left c]
        exact (tot_past (Nat.le_refl _) c).symm
      · rw [Nat.min_eq_right (by omega)]
    rw [e1]
    cases f with
    | zero =>
      unfold Vf
      rw [if_pos (by omega), Nat.zero_mul, Nat.zero_add]
      rfl
    | succ f =>
      unfold Vf
      rw [Nat.add_sub_cancel, if_pos hf, if_pos (by omega), dfac_pascal t f (by omega), Nat.add_mul, show t + 1 - (f + 1) = t - f by omega, Nat.mul_assoc]
      omega
theorem phi_turn (k t : Nat) {acc : List Nat} {free ways : Nat} (hl : acc.length = t + 1) (hf : free ≤ t + 1) : phi k t 0 (oneTurn t k acc free ways) = phi k t 0 acc + ways * Vf k (t + 1) free := by
  unfold oneTurn
  rw [phi_spread k t _ free ways _ (by rw [placed_length, hl]; omega), Vf_step k t free hf, Nat.mul_add]
  unfold placed
  by_cases c : 0 < free
  · rw [if_pos c, phi_addAt k t (by omega), Nat.mul_comm free ways, Nat.mul_assoc]
    omega
  · have : free = 0 := by omega
    subst this
    rw [if_neg (by omega)]
    simp
theorem phi_go (k t : Nat) : ∀ (ws acc : List Nat) (free : Nat), acc.length = t + 1 → free + ws.length ≤ t + 2 → phi k t 0 (oneGo t k acc free ws) = phi k t 0 acc + phi k (t + 1) free ws
  | [], _, _, _, _ => rfl
  | w :: ws, acc, free, hl, hf => by
    have hf' : free + (ws.length + 1) ≤ t + 2 := by simpa using hf
    show phi k t 0 (oneGo t k (oneTurn t k acc free w) (free + 1) ws) = phi k t 0 acc + (w * Vf k (t + 1) free + phi k (t + 1) (free + 1) ws)
    rw [phi_go k t ws _ (free + 1) (by rw [oneTurn_length, hl]) (by omega), phi_turn k t hl (by omega)]
    omega
theorem phi_more (k t : Nat) {begun : List Nat} (h : begun.length ≤ t + 2) : phi k t 0 (oneMore begun t k) = phi k (t + 1) 0 begun := by
  unfold oneMore
  rw [phi_go k t begun _ 0 (List.length_replicate ..) (by omega), phi_zero, Nat.zero_add]
theorem phi_many (k n : Nat) : ∀ (m a : Nat) (begun : List Nat), a + m = n → begun.length ≤ m + 1 → phi k 0 0 (manyGo n begun a (List.replicate m k)) = phi k m 0 begun
  | 0, _, _, _, _ => rfl
  | m + 1, a, begun, h, hl => by
    show phi k 0 0 (manyGo n (oneMore begun (n - a - 1) k) (a + 1) (List.replicate m k)) = _
    have e : n - a - 1 = m := by omega
    rw [e, phi_many k n m (a + 1) _ (by omega) (by rw [oneMore_length]; exact Nat.le_refl _), phi_more k m (by omega)]
theorem manyGo_length (n : Nat) : ∀ (ms : List Nat) (a : Nat) (begun : List Nat), a + ms.length = n → begun.length ≤ ms.length + 1 → 0 < begun.length → 0 < (manyGo n begun a ms).length ∧ (manyGo n begun a ms).length ≤ 1
  | [], _, begun, _, h, h0 => ⟨h0, by simpa [manyGo] using h⟩
  | m :: ms, a, begun, h, hl, h0 => by
    have h' : a + (ms.length + 1) = n := by simpa using h
    show 0 < (manyGo n (oneMore begun (n - a - 1) m) (a + 1) ms).length ∧ _
    exact manyGo_length n ms (a + 1) _ (by omega) (by rw [oneMore_length]; omega) (by rw [oneMore_length]; omega)
/-- of alike openings just the good orders -/
theorem manyAll_alike (n k : Nat) : manyAll (List.replicate n k) = G k n := by
  have h := phi_many k n n 0 [1] (by omega) (by simp)
  obtain ⟨l0, l1⟩ := manyGo_length n (List.replicate n k) 0 [1] (by simp) (by simp) (by simp)
  have e1 : phi k n 0 [1] = G k n := by
    show 1 * Vf k n 0 + 0 = _
    unfold Vf
    rw [if_pos (by omega)]
    show 1 * (1 * G k n) + 0 = _
    omega
  rw [e1] at h
  unfold manyAll
  rw [List.length_replicate, ← h]
  generalize manyGo n [1] 0 (List.replicate n k) = z at l0 l1
  match z, l0, l1 with
  | [x], _, _ =>
    show x = x * Vf k 0 0 + 0
    have : Vf k 0 0 = 1 := rfl
    rw [this]
    omega
  | [], h, _ => simp at h
  | _ :: _ :: _, _, h => simp at h

/-! ### sizes -/
def Bd (B : Nat) (l : List Nat) : Prop := ∀ i, l.getD i 0 ≤ B
theorem addAt_get (l : List Nat) (i v j : Nat) : (addAt l i v).getD j 0 ≤ l.getD j 0 + (if j = i then v else 0) := by
  unfold addAt
  rw [List.getD_eq_getElem?_getD, List.getD_eq_getElem?_getD, List.getElem?_set]
  by_cases e : i = j
  · subst e
    rw [if_pos rfl, if_pos rfl]
    by_cases h : i < l.length
    · rw [if_pos h, List.getD_eq_getElem?_getD]; exact Nat.le_refl _
    · rw [if_neg h]; exact Nat.zero_le _
  · rw [if_neg e]; exact Nat.le_add_right _ _
theorem spread_get (l : List Nat) (free ways : Nat) : ∀ c j, (spread l free ways c).getD j 0 ≤ l.getD j 0 + (if j < free + c then ways else 0)
  | 0, j => Nat.le_add_right _ _
  | c + 1, j => by
    have h1 := addAt_get (spread l free ways c) (free + c) ways j
    have h2 := spread_get l free ways c j
    show (addAt (spread l free ways c) (free + c) ways).getD j 0 ≤ _
    by_cases e : j = free + c
    · rw [if_pos e] at h1
      rw [if_neg (by omega)] at h2
      rw [if_pos (by omega)]
      omega
    · rw [if_neg e] at h1
      by_cases e2 : j < free + c
      · rw [if_pos e2] at h2
        rw [if_pos (by omega)]
        omega
      · rw [if_neg e2] at h2
        omega
theorem turn_bd {left most : Nat} {acc : List Nat} {free ways B S : Nat} (h : Bd B acc) (hw : ways ≤ S) (hf : free ≤ 40) : Bd (B + 41 * S) (oneTurn left most acc free ways) := by
  intro j
  have h1 := spread_get (placed acc free ways) free ways (min most (left + 1 - free)) j
  have h2 : (placed acc free ways).getD j 0 ≤ acc.getD j 0 + free * ways := by
    unfold placed
    split
    · refine Nat.le_trans (addAt_get _ _ _ _) ?_
      split <;> omega
    · omega
  have h3 := h j
  have h4 : free * ways ≤ 40 * S := Nat.mul_le_mul hf hw
  have h5 : (if j < free + min most (left + 1 - free) then ways else 0) ≤ S := by split <;> omega
  show (spread (placed acc free ways) free ways (min most (left + 1 - free))).getD j 0 ≤ B + 41 * S
  omega
theorem go_bd {left most S : Nat} : ∀ (ws acc : List Nat) (free B : Nat), Bd B acc → Bd S ws → free + ws.length ≤ 41 → Bd (B + ws.length * (41 * S)) (oneGo left most acc free ws)
  | [], acc, _, B, h, _, _ => by
    intro j
    have := h j
    simpa [oneGo] using this
  | w :: ws, acc, free, B, h, hs, hf => by
    have hf' : free + (ws.length + 1) ≤ 41 := by simpa using hf
    have := go_bd (left := left) (most := most) ws (oneTurn left most acc free w) (free + 1) (B + 41 * S) (turn_bd h (hs 0) (by omega)) (fun i => hs (i + 1)) (by omega)
    intro j
    have := this j
    show (oneGo left most (oneTurn left most acc free w) (free + 1) ws).getD j 0 ≤ _
    rw [List.length_cons, Nat.add_mul]
    omega
theorem more_bd {begun : List Nat} {left most S : Nat} (h : Bd S begun) (hl : begun.length ≤ 41) : Bd (2048 * S) (oneMore begun left most) := by
  have := go_bd (left := left) (most := most) begun (List.replicate (left + 1) 0) 0 0 (fun i => by
    rw [List.getD_eq_getElem?_getD, List.getElem?_replicate]
    split <;> simp) h (by omega)
  intro j
  have := this j
  have h2 : begun.length * (41 * S) ≤ 41 * (41 * S) := Nat.mul_le_mul_right _ hl
  unfold oneMore
  omega
end Obx
set_option maxHeartbeats 4000000
set_option maxHeartbeats 1000000
/-! A helper's exchanges, in plain Lean. -/
namespace Obx

theorem path_append {o : List Nat} : ∀ {u w : List Nat} {z : Nat}, Path o (u ++ w) z ↔ Path o u (w.headD z) ∧ Path o w z
  | [], w, z => by simp [Path]
  | [x], [], z => by simp [Path]
  | [x], y :: w, z => by simp [Path]
  | x :: y :: u, w, z => by
    have ih := path_append (o := o) (u := y :: u) (w := w) (z := z)
    show nx o x = (y :: (u ++ w)).headD z ∧ Path o (y :: u ++ w) z ↔ (nx o x = (y :: u).headD (w.headD z) ∧ Path o (y :: u) (w.headD z)) ∧ Path o w z
    rw [ih]
    simp [and_assoc]
theorem path_same {o o' : List Nat} : ∀ {l : List Nat} {z : Nat}, Path o l z → (∀ x ∈ l, nx o' x = nx o x) → Path o' l z
  | [], _, _, _ => trivial
  | x :: l, z, hp, h => ⟨(h x List.mem_cons_self).trans hp.1, path_same hp.2 fun y hy => h y (List.mem_cons_of_mem _ hy)⟩
/-- the last one leads elsewhere -/
theorem path_turn {o o' l : List Nat} {x z z' : Nat} (hp : Path o (l ++ [x]) z) (h : ∀ y ∈ l, nx o' y = nx o y) (e : nx o' x = z') : Path o' (l ++ [x]) z' := by
    have h1 := path_append.mp hp
    exact path_append.mpr ⟨path_same h1.1 h, e, trivial⟩

def swap (o : List Nat) (a b : Nat) : List Nat := (o.set a (nx o b)).set b (nx o a)
theorem swap_length (o : List Nat) (a b : Nat) : (swap o a b).length = o.length := by unfold swap; rw [List.length_set, List.length_set]
theorem nx_set {o : List Nat} {i v x : Nat} (h : i < o.length) : nx (o.set i v) x = if x = i then v else nx o x := by
  unfold nx
  rw [List.getD_eq_getElem?_getD, List.getD_eq_getElem?_getD, List.getElem?_set]
  by_cases e : i = x
  · subst e
    rw [if_pos rfl, if_pos rfl, if_pos h]
    rfl
  · rw [if_neg e, if_neg (Ne.symm e)]
theorem nx_swap {o : List Nat} {a b x : Nat} (ha : a < o.length) (hb : b < o.length) : nx (swap o a b) x = if x = a then nx o b else if x = b then nx o a else nx o x := by
  unfold swap
  rw [nx_set (by rw [List.length_set]; exact hb), nx_set ha]
  by_cases e1 : x = b
  · subst e1
    rw [if_pos rfl, if_pos rfl]
    by_cases e2 : x = a
    · rw [if_pos e2, e2]
    · rw [if_neg e2]
  · rw [if_neg e1, if_neg e1]
theorem swap_ord {o : List Nat} (h : IsOrd o) {a b : Nat} (ha : a < o.length) (hb : b < o.length) : IsOrd (swap o a b) := by
  refine ⟨fun x hx => ?_, fun x y hx hy e => ?_⟩
  · rw [swap_length] at hx ⊢
    rw [nx_swap ha hb]
    split
    · exact h.lt b hb
    · split
      · exact h.lt a ha
      · exact h.lt x hx
  · rw [swap_length] at hx hy
    rw [nx_swap ha hb, nx_swap ha hb] at e
    have inj := h.inj
    by_cases x1 : x = a
    · rw [if_pos x1] at e
      by_cases y1 : y = a
      · omega
      · rw [if_neg y1] at e
        by_cases y2 : y = b
        · rw [if_pos y2] at e
          have := inj b a hb ha e
          omega
        · rw [if_neg y2] at e
          have := inj b y hb hy e
          omega
    · rw [if_neg x1] at e
      by_cases x2 : x = b
      · rw [if_pos x2] at e
        by_cases y1 : y = a
        · rw [if_pos y1] at e
          have := inj a b ha hb e
          omega
        · rw [if_neg y1] at e
          by_cases y2 : y = b
          · omega
          · rw [if_neg y2] at e
            have := inj a y ha hy e
            omega
      · rw [if_neg x2] at e
        by_cases y1 : y = a
        · rw [if_pos y1] at e
          have := inj x b hx hb e
          omega
        · rw [if_neg y1] at e
          by_cases y2 : y = b
          · rw [if_pos y2] at e
            have := inj x a hx ha e
            omega
          · rw [if_neg y2] at e
            exact inj x y hx hy e
/-- the pair as it is told -/
def mm (u v : Nat) : Nat × Nat := (min u v, max u v)
theorem nx_mm {o : List Nat} {u v x : Nat} (hu : u < o.length) (hv : v < o.length) : nx (swap o (mm u v).1 (mm u v).2) x = if x = u then nx o v else if x = v then nx o u else nx o x := by
  unfold mm
  by_cases c : u ≤ v
  · show nx (swap o (min u v) (max u v)) x = _
    rw [Nat.min_eq_left c, Nat.max_eq_right c]
    exact nx_swap hu hv
  · show nx (swap o (min u v) (max u v)) x = _
    rw [Nat.min_eq_right (by omega), Nat.max_eq_left (by omega), nx_swap hv hu]
    by_cases e1 : x = u
    · rw [if_pos e1, if_neg (by omega), if_pos e1]
    · rw [if_neg e1, if_neg e1]
theorem mm_ord {o : List Nat} (h : IsOrd o) {u v : Nat} (hu : u < o.length) (hv : v < o.length) : IsOrd (swap o (mm u v).1 (mm u v).2) := swap_ord h (by simp only [mm]; omega) (by simp only [mm]; omega)

/-- a ring falls into two -/
theorem parts_split {o : List Nat} {done post : List (List Nat)} {a b : List Nat} {u v : Nat} (h : Parts o (done ++ (a ++ [u] ++ (b ++ [v])) :: post)) :
    u < o.length ∧ v < o.length ∧ u ≠ v ∧ Parts (swap o (mm u v).1 (mm u v).2) (done ++ (a ++ [u]) :: (b ++ [v]) :: post) := by
  obtain ⟨hp, hne, hpa⟩ := h
  have nd : (done ++ (a ++ [u] ++ (b ++ [v])) :: post).flatten.Nodup := hp.nodup_iff.mpr List.nodup_range
  have lt : ∀ x ∈ (done ++ (a ++ [u] ++ (b ++ [v])) :: post).flatten, x < o.length := fun x hx => by simpa using hp.mem_iff.mp hx
  have ef : (done ++ (a ++ [u]) :: (b ++ [v]) :: post).flatten = (done ++ (a ++ [u] ++ (b ++ [v])) :: post).flatten := by simp
  have hu : u < o.length := lt u (by simp)
  have hv : v < o.length := lt v (by simp)
  simp only [List.flatten_append, List.flatten_cons] at nd
  obtain ⟨n1, n2, n3⟩ := List.nodup_append.mp nd
  obtain ⟨n4, n5, n6⟩ := List.nodup_append.mp n2
  obtain ⟨n7, n8, n9⟩ := List.nodup_append.mp n4
  obtain ⟨n10, n11, n12⟩ := List.nodup_append.mp n7
  obtain ⟨n13, n14, n15⟩ := List.nodup_append.mp n8
  have huv : u ≠ v := n9 u (by simp) v (by simp)
  have o1 : ∀ x, x ≠ u → x ≠ v → nx (swap o (mm u v).1 (mm u v).2) x = nx o x := fun x h1 h2 => by
    rw [nx_mm hu hv, if_neg h1, if_neg h2]
  have ou : nx (swap o (mm u v).1 (mm u v).2) u = nx o v := by rw [nx_mm hu hv, if_pos rfl]
  have ov : nx (swap o (mm u v).1 (mm u v).2) v = nx o u := by rw [nx_mm hu hv, if_neg huv.symm, if_pos rfl]
  have P := hpa (a ++ [u] ++ (b ++ [v])) (by simp)
  obtain ⟨P1, P2⟩ := path_append.mp P
  have hvz : nx o v = (a ++ [u]).headD 0 := by
    have := (path_append.mp P2).2.1
    rw [this]
    cases a <;> simp
  have huz : nx o u = (b ++ [v]).headD 0 := by
    have := (path_append.mp P1).2.1
    rw [this]
    cases b <;> simp
  refine ⟨hu, hv, huv, ⟨by rw [ef, swap_length]; exact hp, fun r hr => ?_, fun r hr => ?_⟩⟩
  · rcases List.mem_append.mp hr with hr | hr
    · exact hne r (List.mem_append_left _ hr)
    · rcases List.mem_cons.mp hr with rfl | hr
      · simp
      · rcases List.mem_cons.mp hr with rfl | hr
        · simp
        · exact hne r (List.mem_append_right _ (List.mem_cons_of_mem _ hr))
  · rcases List.mem_append.mp hr with hr | hr
    · refine path_same (hpa r (List.mem_append_left _ hr)) fun x hx => o1 x ?_ ?_
      · exact n3 x (List.mem_flatten.mpr ⟨r, hr, hx⟩) u (by simp)
      · exact n3 x (List.mem_flatten.mpr ⟨r, hr, hx⟩) v (by simp)
    · rcases List.mem_cons.mp hr with rfl | hr
      · refine path_turn (z := (b ++ [v]).headD ((a ++ [u] ++ (b ++ [v])).headD 0)) P1 (fun y hy => o1 y ?_ ?_) (ou.trans hvz)
        · exact n12 y hy u (by simp)
        · exact n9 y (by simp [hy]) v (by simp)
      · rcases List.mem_cons.mp hr with rfl | hr
        · refine path_turn (z := (a ++ [u] ++ (b ++ [v])).headD 0) P2 (fun y hy => o1 y ?_ ?_) (ov.trans huz)
          · exact (n9 u (by simp) y (by simp [hy])).symm
          · exact n15 y hy v (by simp)
        · refine path_same (hpa r (List.mem_append_right _ (List.mem_cons_of_mem _ hr))) fun x hx => o1 x ?_ ?_
          · exact (n6 u (by simp) x (List.mem_flatten.mpr ⟨r, hr, hx⟩)).symm
          · exact (n6 v (by simp) x (List.mem_flatten.mpr ⟨r, hr, hx⟩)).symm

/-! ### the exchanges of a ring -/
def ats (k len : Nat) : List Nat := (List.range ((len - 1) / k)).map fun i => k - 1 + i * k
def exR (k : Nat) (r : List Nat) : List (Nat × Nat) := (ats k r.length).map fun a => mm (r.getD a 0) (r.getD (r.length - 1) 0)
def exch (k : Nat) (rs : List (List Nat)) : List (Nat × Nat) := rs.flatMap (exR k)
def doAll (o : List Nat) (ps : List (Nat × Nat)) : List Nat := ps.foldl (fun o p => swap o p.1 p.2) o
def need (k : Nat) (rs : List (List Nat)) : Nat := (rs.map fun r => (r.length - 1) / k).sum
theorem exR_len (k : Nat) (r : List Nat) : (exR k r).length = (r.length - 1) / k := by simp [exR, ats]
theorem exch_len (k : Nat) : ∀ rs, (exch k rs).length = need k rs
  | [] => rfl
  | r :: rs => by
    show (exR k r ++ exch k rs).length = (r.length - 1) / k + need k rs
    rw [List.length_append, exR_len, exch_len k rs]
theorem exR_short {k : Nat} {r : List Nat} (h : r.length ≤ k) (hk : 1 ≤ k) : exR k r = [] := by
  have : (r.length - 1) / k = 0 := Nat.div_eq_of_lt (by omega)
  simp [exR, ats, this]
theorem exR_long {k : Nat} {a b : List Nat} {u v : Nat} (ha : a.length + 1 = k) : exR k (a ++ [u] ++ (b ++ [v])) = mm u v :: exR k (b ++ [v]) := by
  have hk : 0 < k := by omega
  have el : (a ++ [u] ++ (b ++ [v])).length = k + (b.length + 1) := by simp; omega
  have eb : (b ++ [v]).length = b.length + 1 := by simp
  have eq1 : (k + (b.length + 1) - 1) / k = b.length / k + 1 := by
    rw [show k + (b.length + 1) - 1 = b.length + k by omega, Nat.add_div_right _ hk]
  unfold exR ats
  rw [el, eb, eq1, List.range_succ_eq_map, List.map_cons, List.map_cons, List.map_map, List.map_map, List.map_map]
  have el2 : (a ++ [u] ++ (b ++ [v])).getD (k + (b.length + 1) - 1) 0 = v := by
    rw [List.getD_eq_getElem?_getD, List.getElem?_append_right (by simp; omega), List.getElem?_append_right (by simp; omega)]
    have : k + (b.length + 1) - 1 - (a ++ [u]).length - b.length = 0 := by simp; omega
    rw [this]
    rfl
  have el3 : (b ++ [v]).getD (b.length + 1 - 1) 0 = v := by
    rw [List.getD_eq_getElem?_getD, List.getElem?_append_right (by omega)]
    have : b.length + 1 - 1 - b.length = 0 := by omega
    rw [this]
    rfl
  rw [el2, el3]
  congr 1
  · congr 1
    rw [Nat.zero_mul, Nat.add_zero, List.getD_eq_getElem?_getD, List.getElem?_append_left (by simp; omega), List.getElem?_append_right (by omega)]
    have : k - 1 - a.length = 0 := by omega
    rw [this]
    rfl
  · rw [show b.length + 1 - 1 = b.length by omega]
    apply List.map_congr_left
    intro i hi
    show mm ((a ++ [u] ++ (b ++ [v])).getD (k - 1 + (i + 1) * k) 0) v = mm ((b ++ [v]).getD (k - 1 + i * k) 0) v
    congr 1
    rw [List.getD_eq_getElem?_getD, List.getD_eq_getElem?_getD, List.getElem?_append_right (by
      simp only [List.length_append, List.length_cons, List.length_nil]
      rw [Nat.add_mul]
      omega)]
    congr 2
    simp only [List.length_append, List.length_cons, List.length_nil]
    rw [Nat.add_mul]
    omega
theorem split_k {k : Nat} {r : List Nat} (hk : 1 ≤ k) (h : k < r.length) : ∃ a u b v, r = a ++ [u] ++ (b ++ [v]) ∧ a.length + 1 = k := by
  have e1 : r.take k ++ r.drop k = r := List.take_append_drop k r
  have n1 : r.take k ≠ [] := by
    intro z
    have := congrArg List.length z
    rw [List.length_take, List.length_nil] at this
    omega
  have n2 : r.drop k ≠ [] := by
    intro z
    have := congrArg List.length z
    rw [List.length_drop, List.length_nil] at this
    omega
  refine ⟨(r.take k).dropLast, (r.take k).getLast n1, (r.drop k).dropLast, (r.drop k).getLast n2, ?_, ?_⟩
  · rw [List.dropLast_concat_getLast, List.dropLast_concat_getLast, e1]
  · rw [List.length_dropLast, List.length_take]
    omega

/-! ### behind them no ring is longer than k -/
theorem doAll_ok {k : Nat} (hk : 1 ≤ k) : ∀ (n : Nat) (rs done : List (List Nat)) (o : List Nat), rs.flatten.length + rs.length ≤ n → IsOrd o → Parts o (done ++ rs) → (∀ r ∈ done, r.length ≤ k) →
    IsOrd (doAll o (exch k rs)) ∧ (doAll o (exch k rs)).length = o.length ∧ (∀ p ∈ exch k rs, p.1 < p.2 ∧ p.2 < o.length) ∧ ∃ cs, Parts (doAll o (exch k rs)) cs ∧ ∀ r ∈ cs, r.length ≤ k
  | n, [], done, o, _, ho, hp, hd => ⟨ho, rfl, by simp [exch], done, by simpa [doAll, exch] using hp, hd⟩
  | 0, r :: rs, _, _, h, _, _, _ => by simp at h
  | n + 1, r :: rs, done, o, h, ho, hp, hd => by
    by_cases c : r.length ≤ k
    · have e : exch k (r :: rs) = exch k rs := by
        show exR k r ++ exch k rs = _
        rw [exR_short c hk, List.nil_append]
      rw [e]
      refine doAll_ok hk n rs (done ++ [r]) o (by simp at h ⊢; omega) ho (by simpa using hp) fun q hq => ?_
      rcases List.mem_append.mp hq with hq | hq
      · exact hd q hq
      · have : q = r := by simpa using hq
        rw [this]; exact c
    · obtain ⟨a, u, b, v, rfl, ha⟩ := split_k (r := r) hk (by omega)
      obtain ⟨hu, hv, huv, hp2⟩ := parts_split hp
      have e : exch k ((a ++ [u] ++ (b ++ [v])) :: rs) = mm u v :: exch k ((b ++ [v]) :: rs) := by
        show exR k _ ++ exch k rs = mm u v :: (exR k _ ++ exch k rs)
        rw [exR_long ha, List.cons_append]
      rw [e]
      obtain ⟨i1, i2, i3, i4⟩ := doAll_ok hk n ((b ++ [v]) :: rs) (done ++ [a ++ [u]]) (swap o (mm u v).1 (mm u v).2) (by simp at h ⊢; omega) (mm_ord ho hu hv) (by simpa using hp2) fun q hq => by
        rcases List.mem_append.mp hq with hq | hq
        · exact hd q hq
        · have : q = a ++ [u] := by simpa using hq
          rw [this]; simp; omega
      rw [swap_length] at i2 i3
      refine ⟨i1, i2, fun p hp => ?_, i4⟩
      rcases List.mem_cons.mp hp with rfl | hp
      · simp only [mm]
        omega
      · exact i3 p hp
theorem ring_le {o : List Nat} {cs : List (List Nat)} {k : Nat} (ho : IsOrd o) (h : Parts o cs) (hc : ∀ c ∈ cs, c.length ≤ k) : ∀ r ∈ rings o, r.length ≤ k := by
  obtain ⟨_, _, _, i4⟩ := ringsGo_ok ho (List.range o.length) [] (fun b hb => List.mem_range.mp hb) (by simp) (by simp) List.nodup_nil
  intro r hr
  have R := i4 r hr
  obtain ⟨l, el, hbl⟩ := R.head
  generalize r.headD 0 = b at R el hbl
  subst el
  have hb : b < o.length := R.lt b List.mem_cons_self
  have hlen : ∀ q : List Nat, q.Nodup → (∀ x ∈ q, x < o.length) → q.length ≤ o.length := fun q nq lq => by
    have := List.Nodup.length_le_of_subset (l₂ := List.range o.length) nq (fun x hx => List.mem_range.mpr (lq x hx))
    simpa using this
  have e1 : ring o b = b :: l := ring_unique R.path hbl (by
    have := hlen _ R.nd R.lt
    simp at this
    omega)
  have hbc : b ∈ cs.flatten := h.perm.mem_iff.mpr (List.mem_range.mpr hb)
  obtain ⟨c, hcm, hbc⟩ := List.mem_flatten.mp hbc
  obtain ⟨u, v, rfl⟩ := List.append_of_mem hbc
  have hp := h.path _ hcm
  have sub := List.sublist_flatten_of_mem hcm
  have nd : (u ++ b :: v).Nodup := List.Nodup.sublist sub (h.perm.nodup_iff.mpr List.nodup_range)
  have lt : ∀ x ∈ u ++ b :: v, x < o.length := fun x hx => by simpa using h.perm.mem_iff.mp (List.mem_flatten.mpr ⟨_, hcm, hx⟩)
  obtain ⟨p1, p2⟩ := path_append.mp hp
  have hz : (u ++ b :: v).headD 0 = u.headD b := by cases u <;> rfl
  rw [hz] at p2
  have p3 : Path o (b :: (v ++ u)) b := by
    have : Path o ((b :: v) ++ u) b := path_append.mpr ⟨p2, p1⟩
    exact this
  have nb : b ∉ v ++ u := by
    obtain ⟨m1, m2, m3⟩ := List.nodup_append.mp nd
    intro z
    rcases List.mem_append.mp z with z | z
    · exact (List.nodup_cons.mp m2).1 z
    · exact m3 b z b List.mem_cons_self rfl
  have e2 : ring o b = b :: (v ++ u) := ring_unique p3 nb (by
    have := hlen _ nd lt
    simp at this ⊢
    omega)
  have e3 : l = v ++ u := by
    have := e1.symm.trans e2
    simpa using this
  have := hc _ hcm
  rw [e3]
  simp at this ⊢
  omega
/-- the exchanges of an order -/
theorem helped {o : List Nat} {k : Nat} (ho : IsOrd o) (hk : 1 ≤ k) :
    IsOrd (doAll o (exch k (rings o))) ∧ (doAll o (exch k (rings o))).length = o.length ∧ (∀ p ∈ exch k (rings o), p.1 < p.2 ∧ p.2 < o.length) ∧ ∀ r ∈ rings (doAll o (exch k (rings o))), r.length ≤ k := by
  obtain ⟨i1, i2, i3, cs, i4, i5⟩ := doAll_ok hk _ (rings o) [] o (Nat.le_refl _) ho (by simpa using rings_parts ho) (by simp)
  exact ⟨i1, i2, i3, ring_le i1 i4 i5⟩
end Obx
set_option maxHeartbeats 4000000
set_option Elab.async false
set_option linter.all false
set_option maxRecDepth 100000
set_option maxHeartbeats 4000000
/-! Rules that the layer lacks: a list lengthened by a tuple, min, max and sorted of a tuple, an item of a list to be written anew. -/
namespace Obr
open PySem PySem.Spec PyProof.Rows
/-! ### extend by a tuple -/
section
open PySem.AutoSeq1
theorem extend_tup (l : Addr) (items : Array Value) (n : Nat) (b : Addr) (items2 : Array Value) (n2 : Nat) (dd : Option Addr) (sl : Array (Option Value)) (hs0 : ¬(!items.isEmpty && Builtin.List.listTooLong (items.size + items2.size)) = true) (hs1 : items.size ≤ sizeLine) (hs2 : items.size + items2.size ≤ sizeLine + 1) :
    Meets (Builtin.«list.extend» ⟨[.ref l, .ref b], []⟩) (fun _ R s => s.heap.get? l = some { cls := .type "list", dict := none, data := .seq items n, slots := #[] } ∧ s.heap.get? b = some { cls := .type "tuple", dict := dd, data := .seq items2 n2, slots := sl } ∧ R (.ok (.ret Value.none)) { s with heap := s.heap.update l (Obj.mapSeq fun x => x ++ items2), toks := s.toks }) :=
  .of_wp fun prog w A R s h => by
    obtain ⟨hp, g, d, tk, os⟩ := s; obtain ⟨hl, hb, h⟩ := h; have f1 := PySem.AutoSeq1.idx_int; have f2 := PySem.AutoSeq1.sub_tuple_tuple; have f3 := PySem.AutoSeq1.sub_list_list; have f4 := PySem.AutoSeq1.sub_tuple_list; have f5 := PySem.AutoSeq1.sub_list_tuple;
    have hz' : (items ++ items2).size ≤ sizeLine + 1 := by rw [Array.size_append]; exact hs2
    wp_walk using (wpAny_updateSeq hl rfl (hz := hs1) (_hz' := hz')), wpAny_loadPart' hl, wpAny_loadPart' hb; exact ⟨_, rfl, h⟩
end
open L2
section
variable {X : Cx}
/-- xs.extend(t), t a list or a tuple that stands in H -/
def rExtS : V → List V → Hp → VK → Prop := fun x vs H Q => ∃ l b xs zs, x = .ref l ∧ vs = [.ref b] ∧ H l = some (.lst xs) ∧ (H b = some (.lst zs) ∨ H b = some (.tup zs)) ∧ xs.length + zs.length ≤ sizeLine ∧ Q .non (upd H l (.lst (xs ++ zs)))
theorem mt_extS : MtM X "list.extend" rExtS := by
  intro pins s σ H x vs v us Q I rx rv h
  obtain ⟨l, b, xs, zs, rfl, rfl, hH, hB, hz, q⟩ := h
  rcases hB with hB | hB
  · exact mt_extend pins s σ H _ _ v us Q I rx rv ⟨l, b, xs, zs, rfl, rfl, hH, hB, hz, q⟩
  cases rx
  obtain ⟨u, rfl, ru⟩ := rv.one
  cases ru
  obtain ⟨z, its, n, r, hl, e⟩ := I.lstM hH
  obtain ⟨z2, its2, r2, o2, e2, hc2, n2, hd2⟩ := I.hok b _ hB
  have hl2 := r2.length
  obtain ⟨c2, dd, dt2, sl2⟩ := o2
  have hc2' : c2 = .type "tuple" := hc2
  have hd2' : dt2 = .seq its2.toArray n2 := hd2
  subst hc2' hd2'
  have hsz : its.toArray.size + its2.toArray.size ≤ sizeLine := by rw [List.size_toArray, List.size_toArray]; omega
  have hlong : ¬ (!its.toArray.isEmpty && Builtin.List.listTooLong (its.toArray.size + its2.toArray.size)) = true := by
    rw [notLongL hsz, Bool.and_false]
    exact Bool.false_ne_true
  refine call_meets F.slot_list_extend ⟨_, e, rfl⟩ F.entry_list_extend (F.args_list_extend_2 _ _)
    (extend_tup l its.toArray n b its2.toArray n2 dd sl2 hlong (by rw [List.size_toArray]; omega) (by omega)) ⟨e, e2, ?_⟩
  refine ⟨.non, _, I.lset (its' := its ++ its2) hH e (by simp) (r.append r2) ?_, rfl, q⟩
  rw [List.length_append]
  omega
end
/-! ### min, max of a tuple of ints -/
section
variable {prog : Program} {w : World} {A : Around} {E : Value → Shared → Prop} {s : Shared} {l : Addr} {xs : Array (Int × Tok)} {its : List Value} {ns : List Int} {Q : Value → Shared → Prop}
theorem iter_intTuple (hl : s.heap.IsTuple l (intItems xs))
    (h : ∀ s₂ : Shared, s₂ = { s with heap := s.heap.push { cls := .type "tuple_iterator", data := .fields #[.ref l, .int 0 0] } } →
      (s₂.heap.IsTupleIter s.heap.objs.size l 0 ∧ s₂.heap.IsTuple l (intItems xs)) → (∀ b ∈ [s.heap.objs.size, l], b < s₂.heap.objs.size) → l ≠ s.heap.objs.size → Q (.ref s.heap.objs.size) s₂) :
    wpAny (model prog w) A (pyIter (.ref l)) Q E s := by
  have hlt : l < s.heap.objs.size := by obtain ⟨_, e, _⟩ := hl; exact Heap.lt_size e
  refine wpAny_pyIter_tuple hl (h _ rfl ⟨⟨_, Heap.get?_push_size _ rfl, rfl, rfl⟩, ?_⟩ (fun b hb => ?_) (Nat.ne_of_lt hlt))
  · obtain ⟨o, e, c⟩ := hl
    exact ⟨o, Heap.get?_push_of_some _ e, c⟩
  show b < (s.heap.push _).objs.size
  rw [Heap.size_push]
  rcases List.mem_cons.mp hb with rfl | hb
  · exact Nat.lt_succ_self _
  · rcases List.mem_cons.mp hb with rfl | hb
    · exact Nat.lt_succ_of_lt hlt
    · cases hb
theorem oldT {h' : Heap} (hk : ∀ b o, b ∉ [s.heap.objs.size] → (s.heap.push { cls := .type "tuple_iterator", data := .fields #[.ref l, .int 0 0] }).get? b = some o → h'.get? b = some o) :
    ∀ b o, s.heap.get? b = some o → h'.get? b = some o := fun b o e => by
  refine hk b o (fun hm => ?_) (Heap.get?_push_of_some _ e)
  rcases List.mem_cons.mp hm with e1 | hm
  · exact absurd (e1 ▸ Heap.lt_size e) (Nat.lt_irrefl _)
  · cases hm
theorem max_tupRaw (hh : A.handled = none) (hl : s.heap.IsTuple l its.toArray) (hi : IntsAre its ns) (hne : 0 < ns.length)
    (h : ∀ h' tk M t', (∀ b o, s.heap.get? b = some o → h'.get? b = some o) → M ∈ ns → (∀ a, a ∈ ns → a ≤ M) → Q (.int M t') { s with heap := h', toks := tk }) : wpAny (model prog w) A (call (.builtin "max") [.ref l]) Q E s := by
  obtain ⟨xs, e⟩ := hi.allInts.items
  have hn : numsOf (intItems xs).toList = ns := by rw [← e]; exact hi.numsOf
  rw [nums_intItems] at hn
  subst hn
  rw [e] at hl
  have hsz : 0 < xs.size := by simpa using hne
  refine call_max_walk (iter_intTuple hl fun s₂ e st hfp hlI => ?_)
  subst e
  refine ⟨_, _, _, _, _, _, _, rfl, Walks.tuple (A := A.in1) hh _ l hlI (intItems xs), st, hfp, by simpa [intItems] using hsz, CmpOf.ints_gt (numAt xs) (fun _ _ => intItems_at), fun v h' tk hP hk => ?_⟩
  have hv : (intItems xs)[argBest (fun i j => decide (numAt xs i > numAt xs j)) (xs.size - 1)]? = some v := by simpa [intItems] using hP
  obtain ⟨t, rfl⟩ := intItems_at hv
  obtain ⟨h1, h2⟩ := argBest_gt (numAt xs) (xs.size - 1)
  refine h h' tk _ t (oldT hk) ?_ fun a ha => ?_
  · rw [numAt_eq]; exact PySem.getD_mem (by rw [List.length_map, Array.length_toList]; omega)
  · obtain ⟨j, hj, rfl⟩ := mem_getD ha
    rw [List.length_map, Array.length_toList] at hj
    rw [← numAt_eq]; exact h2 j (by omega)
theorem min_tupRaw (hh : A.handled = none) (hl : s.heap.IsTuple l its.toArray) (hi : IntsAre its ns) (hne : 0 < ns.length)
    (h : ∀ h' tk M t', (∀ b o, s.heap.get? b = some o → h'.get? b = some o) → M ∈ ns → (∀ a, a ∈ ns → M ≤ a) → Q (.int M t') { s with heap := h', toks := tk }) : wpAny (model prog w) A (call (.builtin "min") [.ref l]) Q E s := by
  obtain ⟨xs, e⟩ := hi.allInts.items
  have hn : numsOf (intItems xs).toList = ns := by rw [← e]; exact hi.numsOf
  rw [nums_intItems] at hn
  subst hn
  rw [e] at hl
  have hsz : 0 < xs.size := by simpa using hne
  refine call_min_walk (iter_intTuple hl fun s₂ e st hfp hlI => ?_)
  subst e
  refine ⟨_, _, _, _, _, _, _, rfl, Walks.tuple (A := A.in1) hh _ l hlI (intItems xs), st, hfp, by simpa [intItems] using hsz, CmpOf.ints_lt (numAt xs) (fun _ _ => intItems_at), fun v h' tk hP hk => ?_⟩
  have hv : (intItems xs)[argBest (fun i j => decide (numAt xs i < numAt xs j)) (xs.size - 1)]? = some v := by simpa [intItems] using hP
  obtain ⟨t, rfl⟩ := intItems_at hv
  obtain ⟨h1, h2⟩ := argBest_lt (numAt xs) (xs.size - 1)
  refine h h' tk _ t (oldT hk) ?_ fun a ha => ?_
  · rw [numAt_eq]; exact PySem.getD_mem (by rw [List.length_map, Array.length_toList]; omega)
  · obtain ⟨j, hj, rfl⟩ := mem_getD ha
    rw [List.length_map, Array.length_toList] at hj
    rw [← numAt_eq]; exact h2 j (by omega)
end
section
variable {X : Cx}
def rMaxT (K : PySem.W.Frag) : List V → Hp → VK → Prop := fun vs H Q => ∃ (a : Addr) (ns : List Int), vs = [V.ref a] ∧ SqT K H a (ns.map V.int) ∧ 0 < ns.length ∧ ∀ m, m ∈ ns → (∀ y, y ∈ ns → y ≤ m) → Q (.int m) H
def rMinT (K : PySem.W.Frag) : List V → Hp → VK → Prop := fun vs H Q => ∃ (a : Addr) (ns : List Int), vs = [V.ref a] ∧ SqT K H a (ns.map V.int) ∧ 0 < ns.length ∧ ∀ m, m ∈ ns → (∀ y, y ∈ ns → m ≤ y) → Q (.int m) H
theorem cr_maxT (hc : X.calm = true) : CallR X (.builtin "max") (rMaxT X.K) := by
  intro pins s σ H vs us Q I r h
  obtain ⟨a, ns, rfl, hs, hne, q⟩ := h
  obtain ⟨its, rv, hl, _⟩ := I.tuple hs
  rw [Vals.ref1 r]
  exact max_tupRaw (I.ok.hd hc) hl rv.ints hne fun h' tk m t' hk h1 h2 => ⟨.int _, H, I.kept hk, ⟨_, rfl⟩, q m h1 h2⟩
theorem cr_minT (hc : X.calm = true) : CallR X (.builtin "min") (rMinT X.K) := by
  intro pins s σ H vs us Q I r h
  obtain ⟨a, ns, rfl, hs, hne, q⟩ := h
  obtain ⟨its, rv, hl, _⟩ := I.tuple hs
  rw [Vals.ref1 r]
  exact min_tupRaw (I.ok.hd hc) hl rv.ints hne fun h' tk m t' hk h1 h2 => ⟨.int _, H, I.kept hk, ⟨_, rfl⟩, q m h1 h2⟩
end
/-! ### sorted of a tuple of ints -/
section
open PySem.Calls Srt SrtO
variable {prog : Program} {w : World} {A : Around} {E : Value → Shared → Prop} {s : Shared}
theorem collect_tup {l : Addr} {vs : List Value} {Q : List Value → Shared → Prop} (hl : s.heap.IsTuple l vs.toArray)
    (h : Q vs { s with heap := (s.heap.push (seqObj "list" #[] 0)).update s.heap.objs.size (Obj.mapSeq (· ++ vs.toArray)) }) (hsz : vs.length ≤ sizeLine) :
    wpAny (model prog w) A (collect (.ref l)) Q E s := by
  obtain ⟨o, ho, hc, n, hd⟩ := id hl
  unfold collect
  refine wpAny_bind (wpAny_runValue (codeAny_builtin entry_proto_collect' ?_))
  show wpAny _ _ (do again (.builtin "list.__iadd__" ⟨[← newList [], .ref l], []⟩)) _ _ s
  refine wpAny_bind (wpAny_newList (wpAny_pure ⟨Code.quiet_builtin _ (by decide +kernel), codeAny_builtin entry_list_iadd' ?_⟩))
  show wpAny _ _ (Builtin.List.listExtendWith (.ref s.heap.objs.size) (.ref l) (.ref s.heap.objs.size)) _ _ { s with heap := s.heap.push (seqObj "list" #[] 0) }
  unfold Builtin.List.listExtendWith
  have ho' : (s.heap.push (seqObj "list" #[] 0)).get? l = some o := Heap.get?_push_of_some _ ho
  refine wpAny_bind (wpAny_typeOf (T := "tuple") ⟨o, ho', hc⟩ ?_)
  have ht : (Value.type "tuple" == Value.type "tuple") = true := by rfl
  rw [if_pos (by rw [ht]; simp)]
  refine wpAny_bind (listItems_at ho' hd ?_)
  refine wpAny_bind (listItems_at (xs := #[]) (n := 0) (Heap.get?_push_size _ rfl) rfl ?_)
  rw [if_neg (by simp)]
  refine wpAny_bind (listUpdate_at (xs := #[]) (n := 0) (Heap.get?_push_size _ rfl) rfl ?_ (Nat.zero_le _) (by show (#[] ++ vs.toArray).size ≤ sizeLine + 1; simp only [Array.size_append, List.size_toArray, List.length_nil]; omega))
  refine wpAny_pure ?_
  show wpAny (model prog w) A (do
      let o ← load s.heap.objs.size
      match o.data with
      | .seq xs _ => pure xs.toList
      | _ => unsupported "internal:collect") Q E { s with heap := (s.heap.push (seqObj "list" #[] 0)).update s.heap.objs.size (Obj.mapSeq (· ++ vs.toArray)) }
  refine wpAny_bind (wpAny_load (get?_update_seq (Heap.get?_push_size _ rfl) _) ?_)
  show wpAny _ _ (pure ((#[] : Array Value) ++ vs.toArray).toList) Q E _
  rw [show ((#[] : Array Value) ++ vs.toArray).toList = vs by simp]
  exact wpAny_pure h
theorem sorted_tup {l : Addr} {vs : List Value} {ltv : Value → Value → Bool} {Q : Value → Shared → Prop} (O : Swo ltv) (hl : s.heap.IsTuple l vs.toArray) (hz : vs.length ≤ sizeLine)
    (hS : 2 ≤ vs.length → ∀ (h₁ : Heap) (a : Addr), h₁.get? a = some (seqObj "list" vs.toArray 0) → (∀ b o, s.heap.get? b = some o → b ≠ a ∧ h₁.get? b = some o) → SortableO prog w A.in1.in1 { s with heap := h₁ } a vs ltv)
    (h : ∀ out : List Value, Srtd ltv out → Stb ltv out vs → Q (.ref (s.heap.objs.size + 1)) { s with heap := sortedAll s.heap vs out.toArray }) :
    wpAny (model prog w) A (call (.builtin "sorted") [.ref l]) Q E s := by
  refine Calls.call_function_entry kind_sorted plain_sorted entry_sorted (args_sorted1 _) ?_
  unfold Builtin.«sorted»
  refine wpAny_bind (m := checkCount "sorted" 1 1 _) (wpAny_pure ?_)
  refine wpAny_bind (collect_tup hl ?_ hz)
  refine wpAny_bind (wpAny_newList ?_ hz)
  have hsz : ((s.heap.push (seqObj "list" #[] 0)).update s.heap.objs.size (Obj.mapSeq (· ++ vs.toArray))).objs.size = s.heap.objs.size + 1 := by
    rw [Heap.size_update, size_push']
  have hoL : (((s.heap.push (seqObj "list" #[] 0)).update s.heap.objs.size (Obj.mapSeq (· ++ vs.toArray))).push (seqObj "list" vs.toArray 0)).get? (s.heap.objs.size + 1) = some (seqObj "list" vs.toArray 0) := by
    rw [← hsz]; exact Heap.get?_push_size _ rfl
  have keep : ∀ b o, s.heap.get? b = some o → b ≠ s.heap.objs.size + 1 ∧ (((s.heap.push (seqObj "list" #[] 0)).update s.heap.objs.size (Obj.mapSeq (· ++ vs.toArray))).push (seqObj "list" vs.toArray 0)).get? b = some o := fun b o q => by
    have hlt : b < s.heap.objs.size := Heap.lt_size q
    refine ⟨Nat.ne_of_lt (Nat.lt_succ_of_lt hlt), Heap.get?_push_of_some _ ?_⟩
    rw [Heap.get?_update_ne _ _ _ _ (Nat.ne_of_lt hlt)]
    exact Heap.get?_push_of_some _ q
  show wpAny _ _ _ _ _ { s with heap := ((s.heap.push (seqObj "list" #[] 0)).update s.heap.objs.size (Obj.mapSeq (· ++ vs.toArray))).push (seqObj "list" vs.toArray 0) }
  rw [hsz]
  refine wpAny_bind (wpAny_holding (wpAny_call_entry slot_list_sort ⟨_, hoL, rfl⟩ entry_list_sort (list_sort_ord O hoL hz (fun h2 => hS h2 _ _ hoL keep) fun out hs hb => ⟨_, rfl, ?_⟩) (args_list_sort _)))
  exact wpAny_pure ⟨_, rfl, h out hs hb⟩
end
section
variable {X : Cx}
def rSortedT (K : PySem.W.Frag) : List V → Hp → VK → Prop := fun vs H Q => ∃ (a : Addr) (ns : List Int), vs = [V.ref a] ∧ SqT K H a (ns.map V.int) ∧
  ∀ (ns' : List Int) (p : Addr), ns'.Perm ns → ns'.Pairwise (· ≤ ·) → H p = none → Q (.ref p) (upd H p (.lst (ns'.map V.int)))
theorem cr_sortedTup : CallR X (.builtin "sorted") (rSortedT X.K) := by
  intro pins s σ H vs us Q I r h
  obtain ⟨a, ns, rfl, hs, q⟩ := h
  obtain ⟨its, rv, hl, hz⟩ := I.tuple hs
  rw [Vals.ref1 r]
  have hi := rv.ints
  refine sorted_tup SrtO.swo_int hl (by rw [← rv.length]; exact hz) (fun h2 h₁ a' _ _ => SrtO.ints_sortable hi h2) fun out h1 h2 => ?_
  obtain ⟨k1, k2, k3⟩ := SrtO.ints_out hi h1 h2
  obtain ⟨ep, he'⟩ := PyProof.Rows.sortedAll_at s.heap its out.toArray
  have hlen : ((out.map SrtO.iv).map V.int).length ≤ sizeLine := by
    rw [List.length_map, k2.length_eq]
    rw [List.length_map] at hz
    exact hz
  exact ⟨.ref _, upd H (s.heap.objs.size + 1) (.lst ((out.map SrtO.iv).map V.int)), I.laid (t' := s.toks) (fun _ _ => PyProof.Rows.sortedAll_old) (Nat.le_succ _) ⟨hlen, out, ep, vals_of_ints k1, he'⟩, rfl, q _ _ k2 k3 (I.hok.fresh (Nat.le_succ _))⟩
/-! ### an item of a list, to be written anew -/
def rGetL : V → V → Hp → VK → Prop := fun o i H Q => ∃ p xs j v, o = .ref p ∧ i = .int (j : Nat) ∧ H p = some (.lst xs) ∧ xs[j]? = some v ∧ Q v H
theorem get_list : PGet X rGetL := by
  intro pins s σ H o i ov iv Q I ro ri h
  obtain ⟨p, xs, j, v, rfl, rfl, hp, hj, q⟩ := h
  cases ro
  obtain ⟨t, rfl⟩ := ri
  obtain ⟨its, n, r, ho, hz⟩ := I.lst hp
  obtain ⟨u, hu, ru⟩ := r.get hj
  have hlt : j < its.length := (List.getElem?_eq_some_iff.mp hu).1
  have hl := r.length
  have hn := line63
  refine wpAny_getItem_list ⟨_, ho, rfl, _, rfl⟩ (by omega) (by omega) (by rw [Int.toNat_natCast]; simpa using hu) ?_
  exact ⟨v, H, I, ru, q⟩
/-! ### str of an int or a text; a walk over a list or a tuple -/
def rStrA : List V → Hp → VK → Prop := fun xs H Q => (∃ i : Int, xs = [.int i] ∧ i.natAbs.log2 < 1920 ∧ Q (.str (toString i)) H) ∨ ∃ a, xs = [.str a] ∧ Q (.str a) H
theorem call_strA : CallR X (.type "str") rStrA := by
  intro pins s σ H vs us Q I r h
  rcases h with h | h
  · exact call_str_int pins s σ H vs us Q I r h
  · exact SkE.call_str_str pins s σ H vs us Q I r h
def iSeq (K : PySem.W.Frag) (tl : TE) : TI := fun σ H R => tl σ H fun x H1 => ∃ a, x = .ref a ∧ ((∃ xs, SqL K H1 a xs) ∧ R (Itl K a) H1 ∨ (∃ xs, SqT K H1 a xs) ∧ R (Itt K a) H1)
theorem pi_seq {tg l : Expr} {tl : TE} (hl : PE X l tl) : PI X tg l (iSeq X.K tl) := by
  refine ⟨fun pins s σ H R I h => ?_⟩
  refine thn (hl.run pins s σ H _ I h) fun v s1 ⟨x, H1, I1, r1, q1⟩ => ?_
  obtain ⟨a, e, q⟩ := q1
  subst e
  cases r1
  rcases q with ⟨⟨xs, hq⟩, q⟩ | ⟨⟨xs, hq⟩, q⟩
  · obtain ⟨its, rv, p, hz⟩ := I1.list hq
    refine wpAny_pyIter_list p.isList ?_
    refine ⟨s1.heap.objs.size, [s1.heap.objs.size], _, _, H1, rfl, I1.kept (t' := s1.toks) fun b o e => Heap.get?_push_of_some _ e, turn_list a _, ⟨_, Heap.get?_push_size _ rfl, rfl, rfl⟩, fun b hb => ?_, q⟩
    have e : b = s1.heap.objs.size := by simpa using hb
    subst e
    exact I1.fpOk (Nat.le_refl _) (I1.hok.fresh (Nat.le_refl _))
  · obtain ⟨its, rv, p, hz⟩ := I1.tuple hq
    refine wpAny_pyIter_tuple (show s1.heap.IsTuple a its.toArray from p) ?_
    refine ⟨s1.heap.objs.size, [s1.heap.objs.size], _, _, H1, rfl, I1.kept (t' := s1.toks) fun b o e => Heap.get?_push_of_some _ e, turn_tuple a _, ⟨_, Heap.get?_push_size _ rfl, rfl, rfl⟩, fun b hb => ?_, q⟩
    have e : b = s1.heap.objs.size := by simpa using hb
    subst e
    exact I1.fpOk (Nat.le_refl _) (I1.hok.fresh (Nat.le_refl _))
end
end Obr
set_option maxHeartbeats 4000000
set_option Elab.async false
set_option linter.all false
set_option maxRecDepth 100000
set_option maxHeartbeats 4000000
/-! enumerate of a tuple. -/
namespace Obe
open PySem PySem.Spec PyProof.Rows L2
theorem meets_enumT (l : Addr) (items : Array Value) :
    Meets (Builtin.«enumerate.__new__» ⟨[.type "enumerate", .ref l], []⟩) (fun _ R s => s.heap.IsTuple l items ∧
      R (.ok (.ret (.ref (s.heap.push { cls := .type "tuple_iterator", data := .fields #[.ref l, .int 0 0] }).objs.size)))
        { s with heap := (s.heap.push { cls := .type "tuple_iterator", data := .fields #[.ref l, .int 0 0] }).push { cls := .type "enumerate", data := .fields #[.none, .bool false, .ref s.heap.objs.size, rawInt 0, .none, .none] } }) :=
  .of_wp fun prog w A R s h => by
    obtain ⟨hp, g, d, tk, os⟩ := s; obtain ⟨h1, h⟩ := h
    have hsub := sub_enumerate
    have q1 : ∀ {A' : Around} {E : Value → Shared → Prop} {Q : Value → Shared → Prop}, Q (.ref hp.objs.size) ⟨hp.push { cls := .type "tuple_iterator", data := .fields #[.ref l, .int 0 0] }, g, d, tk, os⟩ → wpAny (model prog w) A' (pyIter (.ref l)) Q E ⟨hp, g, d, tk, os⟩ :=
      fun q => wpAny_pyIter_tuple (s := ⟨hp, g, d, tk, os⟩) h1 q
    wp_walk using q1
    refine wpAny_stack_any fun st => wpAny_pure ?_
    split
    · rename_i c _ _ _ _ _
      cases (c == Value.type "enumerate")
      · wp_walk using q1
        exact ⟨_, rfl, h⟩
      · wp_walk using q1
        exact ⟨_, rfl, h⟩
    · wp_walk using q1
      exact ⟨_, rfl, h⟩
section
variable {prog : Program} {w : World} {A : Around} {E : Value → Shared → Prop} {s : Shared}
theorem call_enumT {l : Addr} {items : Array Value} {Q : Value → Shared → Prop} (hL : s.heap.IsTuple l items)
    (h : ∀ h', IsEnum h' (s.heap.objs.size + 1) s.heap.objs.size 0 .none → h'.IsTupleIter s.heap.objs.size l 0 → h'.objs.size = s.heap.objs.size + 2 →
      (∀ b o, s.heap.get? b = some o → h'.get? b = some o) → Q (.ref (s.heap.objs.size + 1)) { s with heap := h' }) :
    wpAny (model prog w) A (call (.type "enumerate") [.ref l]) Q E s := by
  refine callType_new F.called_enumerate (by decide) (F.typeCall_enumerate_1 _) (F.newCall_enumerate_1 _) (fun obj => F.args_object_init_2 obj _) F.entry_enumerate_new
    (meets_enumT l items) ⟨hL, ?_⟩
  have hz : (s.heap.push { cls := .type "tuple_iterator", data := .fields #[.ref l, .int 0 0] }).objs.size = s.heap.objs.size + 1 := Heap.size_push ..
  show _ ∧ _
  rw [hz]
  have he : IsEnum ((s.heap.push { cls := .type "tuple_iterator", data := .fields #[.ref l, .int 0 0] }).push
      { cls := .type "enumerate", data := .fields #[.none, .bool false, .ref s.heap.objs.size, rawInt 0, .none, .none] }) (s.heap.objs.size + 1) s.heap.objs.size 0 .none := by
    have := Heap.get?_push_size (s.heap.push { cls := .type "tuple_iterator", data := .fields #[.ref l, .int 0 0] })
      (o := { cls := .type "enumerate", data := .fields #[.none, .bool false, .ref s.heap.objs.size, rawInt 0, .none, .none] }) rfl
    rw [hz] at this; exact this
  refine ⟨⟨_, he, rfl⟩, h _ he ⟨_, Heap.get?_push_of_some _ (Heap.get?_push_size _ rfl), rfl, rfl⟩ (by rw [Heap.size_push, hz]) fun b o x => Heap.get?_push_of_some _ (Heap.get?_push_of_some _ x)⟩
end
/-- the tuple at a, each item in a new pair -/
def IteT (K : PySem.W.Frag) (a : Addr) : It :=
  ⟨fun i H => ∃ (xs : List V) (x : V), SqT K H a xs ∧ xs[i]? = some x, fun i H v H' => ∃ T x, v = .ref T ∧ H T = none ∧ H' = upd H T (.tup [.int (i : Nat), x]) ∧ ∀ xs, SqT K H a xs → xs[i]? = some x, fun i H => ∃ xs : List V, SqT K H a xs ∧ xs.length = i⟩
theorem turn_enumT {P : Program} {w : World} {K : PySem.W.Frag} {elts : List Expr} {kk : Nat} {tpos : Pos} (a e it : Addr) (hai : a ≠ it) (hea : e ≠ a) :
    Turn P w K (.Tuple elts kk tpos) (IteT K a) [e, it] e (fun i h => (∃ old, IsEnum h e it ((i : Nat) : Int) old) ∧ h.IsTupleIter it a i ∧ e ≠ it) where
  mem := by simp
  obj := fun i h st b hb => by
    obtain ⟨⟨old, he⟩, ⟨o, ho, hc, hd⟩, _⟩ := st
    have e' : b = e ∨ b = it := by simpa using hb
    rcases e' with z | z
    · rw [z]; exact ⟨_, he, fun v q => nomatch q⟩
    · rw [z]; exact ⟨o, ho, fun v q => by rw [hd] at q; cases q⟩
  keep := fun i h h' st k => let ⟨⟨old, he⟩, hi, hne⟩ := st; ⟨⟨old, k e (by simp) _ he⟩, hi.at fun o q => k it (by simp) o q, hne⟩
  item := by
    intro X hP hw hK hc i pins s σ H E I hf st hg
    subst hP hw hK
    obtain ⟨⟨old, he⟩, hit, hne⟩ := st
    obtain ⟨xs, x, hq, hx⟩ := hg
    obtain ⟨its, rv, p, hz⟩ := I.tuple hq
    obtain ⟨u, hu, ru⟩ := rv.get hx
    have hel : e < s.heap.objs.size := Heap.lt_size he
    have hil : it < s.heap.objs.size := by obtain ⟨_, q, _⟩ := hit; exact Heap.lt_size q
    have hlt : i < its.toArray.size := by simpa using (List.getElem?_eq_some_iff.mp hu).1
    refine wpAny_pyNext_enum_itemD (Draws.tuple (A := X.A.in1) (I.ok.hd hc) it a hai its.toArray) he ⟨hit, p⟩ hlt hne (by simp [hne, hea]) fun x' h' tk hx' ho hit' hT hsz hk => ?_
    have ex : x' = u := by
      have : its.toArray[i]? = some u := by simpa using hu
      rw [hx'] at this
      exact Option.some.inj this
    subst ex
    refine ⟨_, rfl, wpAny_letOwnedTupleGo_enum (s := { s with heap := h', toks := tk + 1 }) ho fun h'' he' sb => ?_⟩
    have hT2 : h''.get? s.heap.objs.size = some { cls := .type "tuple", data := .seq #[.int i tk, x'] } := (sb.2 _ (Nat.ne_of_gt hel)).trans hT
    have new : ObjOk X.prog X.w (upd H s.heap.objs.size (.tup [.int (i : Nat), x])) h'' s.heap.objs.size (.tup [.int (i : Nat), x]) :=
      ⟨by show 2 ≤ sizeLine; decide, [.int i tk, x'], .cons ⟨_, rfl⟩ (.cons ru .nil), ⟨_, hT2, rfl, _, rfl⟩⟩
    have I1 : Inv X pins σ (upd H s.heap.objs.size (.tup [.int (i : Nat), x])) { s with heap := h'', toks := tk + 1 } :=
      I.turnedNew (ch := [e, it]) (fun b ob hb q => (sb.2 b (fun z => hb (by simp [z]))).trans (hk b ob (fun z => hb (by simp [z])) (fun z => hb (by simp [z])) q)) hf (Nat.le_refl _) new
    refine ⟨.ref s.heap.objs.size, _, I1, rfl, ⟨_, x, rfl, I.hok.fresh (Nat.le_refl _), rfl, fun ys hy => by rw [I.tuple_inj hy hq]; exact hx⟩, ⟨⟨x', ?_⟩, hit'.1.at fun o q => (sb.2 it (Ne.symm hne)).trans q, hne⟩, fun b hb => ?_⟩
    · have e1 : ((i + 1 : Nat) : Int) = (i : Int) + 1 := by omega
      rw [e1]; exact he'
    · have hb' : b < s.heap.objs.size := by
        have e' : b = e ∨ b = it := by simpa using hb
        rcases e' with z | z
        · rw [z]; exact hel
        · rw [z]; exact hil
      rw [upd_ne (Nat.ne_of_lt hb')]
      exact (hf b hb).1
  done := by
    intro X hP hw hK hc i pins s σ H E I hf st hg
    subst hP hw hK
    obtain ⟨⟨old, he⟩, hit, hne⟩ := st
    obtain ⟨xs, hq, hx⟩ := hg
    obtain ⟨its, rv, p, hz⟩ := I.tuple hq
    obtain ⟨f0, f1, f2, f3, f4, f5⟩ := hf it (by simp)
    have hl := rv.length
    have hi : i = its.toArray.size := by simp; omega
    subst hi
    exact wpAny_pyNext_enum_endD (Draws.tuple (A := X.A.in1) (I.ok.hd hc) it a hai its.toArray) he ⟨hit, p⟩ fun h' eb => ⟨rfl, I.turned (t' := s.toks) (fun b o hb q => eb b o hb q) f0 f1 f3 f4 f5⟩
  self := fun A i s Q E st h => let ⟨⟨_, he⟩, _⟩ := st; wpAny_pyIter_enum he h
def iEnumT (K : PySem.W.Frag) (ta : TA) : TI := fun σ H R => ta σ H fun vs H1 => ∃ a xs, vs = [.ref a] ∧ SqT K H1 a xs ∧ R (IteT K a) H1
theorem pi_enumT {X : Cx} {e : Expr} {ta : TA} {p pos tpos : Pos} {elts : List Expr} {kk : Nat} (hg : Gl X "enumerate") (hm : X.mg "enumerate" = none) (ha : PA X [e] ta) (hs : starEach [e] X.env = [(false, eval e X.env)] := by rfl) :
    PI X (.Tuple elts kk tpos) (.Call (.Name "enumerate" p) [e] [] pos) (iEnumT X.K ta) := by
  refine ⟨fun pins s σ H R I h => ?_⟩
  refine Call_ (ld_blt I hg hm boot_enumerate (PyProof.Rows.callWith_type1 (thn (ha.run pos pins s σ H _ I h) fun us s1 ⟨vs, H1, I1, r1, q1⟩ => ?_) hs rfl))
  obtain ⟨a, xs, ex, hq, q⟩ := q1
  subst ex
  cases r1 with
  | cons r rr =>
    cases rr
    cases r
    obtain ⟨its, rv, p', hz⟩ := I1.tuple hq
    have hlt : a < s1.heap.objs.size := p'.lt
    refine call_enumT (show s1.heap.IsTuple a its.toArray from p') fun h' he hit hsz hk => wpAny_pyIter_enum he ?_
    have I2 : Inv X pins σ H1 { s1 with heap := h' } := I1.kept (t' := s1.toks) hk
    refine ⟨s1.heap.objs.size + 1, [s1.heap.objs.size + 1, s1.heap.objs.size], _, _, H1, rfl, I2, turn_enumT a (s1.heap.objs.size + 1) s1.heap.objs.size (Nat.ne_of_lt hlt) (Nat.ne_of_gt (Nat.lt_succ_of_lt hlt)), ⟨⟨.none, he⟩, hit, Nat.succ_ne_self _⟩, fun b hb => ?_, q⟩
    have e' : b = s1.heap.objs.size + 1 ∨ b = s1.heap.objs.size := by simpa using hb
    have hle : s1.heap.objs.size ≤ b := by
      rcases e' with z | z
      · rw [z]; exact Nat.le_add_right _ _
      · rw [z]; exact Nat.le_refl _
    exact I1.fpOk hle (I1.hok.fresh hle)
end Obe
set_option maxHeartbeats 4000000
set_option Elab.async false
set_option linter.all false
set_option maxRecDepth 100000
set_option maxHeartbeats 4000000
namespace Obw
open PySem PySem.Spec PyProof.Rows L2 Obr
/-! ### the text by places -/
def top (i : Nat) : Stmt := PySem.Challenge.pw_ownboxes_k64_whole_from_text_to_answers.main.body.getD i (.Pass ⟨0, 0, 0, 0⟩)
abbrev sis_each_once : Stmt := top 12
abbrev sring_from : Stmt := top 13
abbrev srings_of : Stmt := top 14
abbrev sorder_by : Stmt := top 15
abbrev sexchanged : Stmt := top 16
abbrev slook_at_openings : Stmt := top 18
abbrev smade_openings : Stmt := top 19
abbrev sboxes_followed : Stmt := top 20
abbrev sfinders : Stmt := top 21
abbrev slook_at_counts : Stmt := top 24
abbrev sproduct_of : Stmt := top 25
abbrev sby_rings : Stmt := top 26
abbrev smany_good : Stmt := top 27
abbrev ssets_row : Stmt := top 28
abbrev swith_one_more : Stmt := top 29
abbrev smany_all : Stmt := top 30
abbrev sdivisor_of : Stmt := top 31
abbrev sshare : Stmt := top 32
abbrev slook_at_group : Stmt := top 34
abbrev sfound_by_just : Stmt := top 35
abbrev smany_all_of : Stmt := top 36
abbrev slook_at_help : Stmt := top 38
abbrev sneed : Stmt := top 39
abbrev sexchanges : Stmt := top 40
abbrev slines_of : Stmt := top 42
abbrev sline_at : Stmt := top 43
abbrev sline_number : Stmt := top 44
abbrev sgood_at : Stmt := top 45
abbrev sgood_number : Stmt := top 46
abbrev sring_text : Stmt := top 50
abbrev sorder_text : Stmt := top 51
abbrev snumber_in : Stmt := top 52
abbrev snumbers_in : Stmt := top 53
abbrev srings_in : Stmt := top 54
abbrev sread_order : Stmt := top 55
abbrev swith_blanks : Stmt := top 59
abbrev sanswer_by_order : Stmt := top 60
abbrev sanswer_by_numbers : Stmt := top 61
abbrev sanswer_of : Stmt := top 62
abbrev sanswered_row : Stmt := top 63
abbrev sanswered : Stmt := top 64
abbrev s_law_cell_at : Stmt := top 66
abbrev s_law_order : Stmt := top 68
abbrev s_law_all : Stmt := top 70
abbrev s_law_ways : Stmt := top 71
abbrev s_law_words : Stmt := top 72
abbrev s_law_helped : Stmt := top 73
abbrev s_law_need : Stmt := top 74
abbrev s_law_right : Stmt := top 75
abbrev slaw : Stmt := top 76

abbrev FnP (K : PySem.W.Frag) (x : Str) (st : Stmt) (f : Addr) (fd : FuncData) : Prop := FunD K x x (defArgs st) (defBody st) (defScope st) [] [] f fd
/-! ### a def that keeps its promise, to be called by its name -/
structure Dc (P : Program) (w : World) (K : PySem.W.Frag) (mg : Str → Option Value) (base : Heap) (x : Str) (ps : List Str) (k : Nat) (sp : Sp) : Prop where
  ex : ∃ f fd, FnOk P w K mg base CX0 k f fd ps sp ∧ mg x = some (.ref f) ∧ PySem.W.keepIn K (.ref f) = true ∧ Binds K fd ps []
theorem pcall {X : Cx} {x : Str} {ps : List Str} {k j : Nat} {sp : Sp} {e : Expr} {es : List Expr} {p pos : Pos} {t : TA} (D : Dc X.prog X.w X.K X.mg X.base x ps k sp) (hr : Room j X.A) (hg : Gl X x) (ha : PA X (e :: es) t) (hk : k ≤ j := by decide)
    (hdb : (x == ("__debug__" : Str)) = false := by decide) (he : starEach (e :: es) X.env = (false, eval e X.env) :: starEach es X.env := by rfl) (hpl : (backTo pos (starEach es X.env)).any (·.1) = false := by rfl) :
    PE X (.Call (.Name x p) (e :: es) [] pos) (tCall sp [] E0 t) := by
  obtain ⟨f, fd, F, gm, kp, b⟩ := D.ex
  exact pe_call F (hr.mono hk) hg gm kp b .nil pass0 ha hdb he hpl
theorem hu64_of {A : Around} {k : Nat} (hr : Room k A) : A.units + 64 < cLine := by have := hr.un; omega
theorem hu65_of {A : Around} {k : Nat} (hr : Room k A) : A.units + 65 < cLine := by have := hr.un; omega
/-! ### numbers as values -/
abbrev ni (n : Nat) : V := .int (n : Int)
abbrev nis (l : List Nat) : List V := l.map ni
abbrev zs (l : List Nat) : List Int := l.map (fun (n : Nat) => (n : Int))
theorem nis_eq (l : List Nat) : nis l = (zs l).map V.int := by rw [List.map_map]; rfl
theorem nis_get {l : List Nat} {i : Nat} (h : i < l.length) : (nis l)[i]? = some (ni l[i]) := by
  rw [List.getElem?_map, List.getElem?_eq_getElem h]; rfl
theorem nis_nx {l : List Nat} {i : Nat} (h : i < l.length) : (nis l)[i]? = some (ni (Obx.nx l i)) := by
  rw [List.getElem?_map, Obx.nx_get h]; rfl
theorem of_nis {l : List Nat} {i : Nat} {v : V} (h : (nis l)[i]? = some v) : ∃ hi : i < l.length, v = ni l[i] := by
  have hi : i < (nis l).length := (List.getElem?_eq_some_iff.mp h).1
  rw [List.length_map] at hi
  rw [nis_get hi] at h
  exact ⟨hi, (Option.some.inj h).symm⟩
theorem at_n {xs : List V} {i : Nat} {v : V} (h : xs[i]? = some v) : atI xs (i : Int) = some v := atI_nat h
theorem nis_app (l m : List Nat) : nis (l ++ m) = nis l ++ nis m := List.map_append
theorem nis_last (l : List Nat) (c : Nat) : atI (nis (l ++ [c])) (-1) = some (ni c) := by rw [nis_app]; exact atI_last _ _
theorem nis_len (l : List Nat) : (nis l).length = l.length := List.length_map ..
theorem ni_inj {a b : Nat} (h : ni a = ni b) : a = b := by injection h with e; exact Int.ofNat.inj e
/-! ### heaps -/
theorem Same.new {H : Hp} {p : Addr} {o : HO} (h : H p = none) : Same H (upd H p o) := fun b x e => by
  rw [upd_ne (ne_of_none e h)]
  exact e
theorem Same.mut {H H' : Hp} {p : Addr} {o : HO} (e : Same H H') (h : H p = none) : Same H (upd H' p o) := fun a u ha => by
  rw [upd_ne (ne_of_none ha h)]
  exact e a u ha
theorem small {n : Nat} (h : n ≤ 100000) : n ≤ sizeLine := Nat.le_trans h (by decide)
theorem smaller {n : Nat} (h : n < 100000) : n < sizeLine := Nat.lt_of_lt_of_le h (by decide)
/-! ### named questions -/
def NewL (xs : List V) (Q : VK) (H : Hp) : Prop := ∀ p, H p = none → Q (.ref p) (upd H p (.lst xs))
def NewT (xs : List V) (Q : VK) (H : Hp) : Prop := ∀ p, H p = none → Q (.ref p) (upd H p (.tup xs))
def rAddS : R2 := fun x y H Q => ∃ i j, x = .str i ∧ y = .str j ∧ i.length + j.length ≤ sizeLine ∧ Q (.str (i ++ j)) H
def rLenQ (K : PySem.W.Frag) : List V → Hp → VK → Prop := fun xs H Q => ∃ p ys, xs = [.ref p] ∧ (SqL K H p ys ∨ SqT K H p ys) ∧ Q (.int ys.length) H
def rLenStr : List V → Hp → VK → Prop := fun xs H Q => ∃ z, xs = [.str z] ∧ z.length ≤ sizeLine ∧ Q (.int z.length) H
def rTupOf (K : PySem.W.Frag) : List V → Hp → VK → Prop := fun xs H Q => ∃ p ys, xs = [.ref p] ∧ ((SqL K H p ys ∧ ∀ l, H l = none → Q (.ref l) (upd H l (.tup ys))) ∨ (SqT K H p ys ∧ Q (.ref p) H))
def rLstOf (K : PySem.W.Frag) : List V → Hp → VK → Prop := fun xs H Q => ∃ p ys, xs = [.ref p] ∧ (SqL K H p ys ∨ SqT K H p ys) ∧ ∀ l, H l = none → Q (.ref l) (upd H l (.lst ys))
def rIntStr : List V → Hp → VK → Prop := fun xs H Q => ∃ a n, xs = [.str a] ∧ PySem.intText? a = some n ∧ a.length ≤ 640 ∧ Q (.int n) H
def rInsert : V → List V → Hp → VK → Prop := fun x vs H Q => ∃ (l : Addr) (xs : List V) (i : Int) (y : V), x = .ref l ∧ vs = [.int i, y] ∧ H l = some (.lst xs) ∧ xs.length < sizeLine ∧ 0 ≤ i ∧ i < 2 ^ 63 ∧ Q .non (upd H l (.lst (xs.take i.toNat ++ [y] ++ xs.drop i.toNat)))
def rSplit : V → List V → Hp → VK → Prop := fun x xs H Q => ∃ a b, x = .str a ∧ xs = [.str b] ∧ (b.length == 0) = false ∧ a.length + 2 ≤ sizeLine ∧ rNewStrs (Txt.split a b) H Q
def rJoin (K : PySem.W.Frag) : V → List V → Hp → VK → Prop := fun x xs H Q => ∃ a p, ∃ ys : List Str, x = .str a ∧ xs = [.ref p] ∧ (SqL K H p (ys.map V.str) ∨ SqT K H p (ys.map V.str)) ∧ (ys.map (·.length)).sum + ys.length * a.length ≤ 16777216 ∧ Q (.str (Txt.join a ys)) H
def rIsdigit : V → List V → Hp → VK → Prop := fun x xs H Q => ∃ a, x = .str a ∧ xs = [] ∧ True ∧ Q (.bl (Txt.isdigit a)) H
def rMin2 : List V → Hp → VK → Prop := fun xs H Q => ∃ i j, xs = [.int i, .int j] ∧ Q (.int (if j < i then j else i)) H
def rMax2 : List V → Hp → VK → Prop := fun xs H Q => ∃ i j, xs = [.int i, .int j] ∧ Q (.int (if j > i then j else i)) H
def rInt1 : List V → Hp → VK → Prop := fun xs H Q => (∃ i, xs = [.int i] ∧ Q (.int i) H) ∨ ∃ k, xs = [.bl k] ∧ Q (.int (if k then 1 else 0)) H
section
variable {X : Cx}
theorem op_addS : OpR X (binaryOp .Add) rAddS := op_add_str
theorem call_lenQ : CallR X (.builtin "len") (rLenQ X.K) := call_len_seq
theorem call_lenStr : CallR X (.builtin "len") rLenStr := call_len_str
theorem call_tupOf : CallR X (.type "tuple") (rTupOf X.K) := call_tuple_of
theorem call_lstOf : CallR X (.type "list") (rLstOf X.K) := call_list_of
theorem call_int1N : CallR X (.type "int") rInt1 := call_int1
theorem call_min2N (hc : X.calm = true) : CallR X (.builtin "min") rMin2 := call_min2 hc
theorem call_max2N (hc : X.calm = true) : CallR X (.builtin "max") rMax2 := call_max2 hc
theorem call_intStr : CallR X (.type "int") rIntStr := call_int_str
theorem mt_insertN : MtR X "list.insert" rInsert := mt_insert
theorem mt_splitN' : MtR X "str.split" rSplit := mt_split
theorem mt_joinN : MtR X "str.join" (rJoin X.K) := mt_join
theorem mt_isdigitN : MtR X "str.isdigit" rIsdigit := mt_isdigit
end
/-! ### steps of a reading -/
section
variable {D : Ends} {σ : List (Option V)} {H : Hp} {Q : VK} {t u : TS} {ta tb te : TE} {r : R2} {v x y : V} {i : Nat}
theorem r_seq (h : t { D with nx := u D } σ H) : tSeq t u D σ H := h
theorem r_asg {g : TG} (h : te σ H fun x H1 => g x σ H1 D.nx) : tAsg te g D σ H := h
theorem r_name {Q : List (Option V) → Hp → Prop} (h : Q (σ.set i (some v)) H) : gName i v σ H Q := h
theorem r_ret (h : te σ H D.rt) : tRet te D σ H := h
theorem r_drop (h : te σ H fun _ H1 => D.nx σ H1) : tDrop te D σ H := h
theorem r_next (h : D.nx σ H) : tNext D σ H := h
theorem r_ifs {c : TT} (h : c σ H fun b H1 => if b = true then t D σ H1 else u D σ H1) : tIfS c t u D σ H := h
theorem r_test {Q : Bool → Hp → Prop} (h : te σ H fun x H' => ∃ k, x = .bl k ∧ Q k H') : tTest te σ H Q := h
theorem r_tB {Q : Bool → Hp → Prop} (h : te σ H fun x H' => ∃ k, x = .bl k ∧ Q k H') : tB te σ H Q := h
theorem r_and {c d : TT} {Q : Bool → Hp → Prop} (h : c σ H fun b H1 => if b = true then d σ H1 Q else Q false H1) : tAnd c d σ H Q := h
theorem r_or {c d : TT} {Q : Bool → Hp → Prop} (h : c σ H fun b H1 => if b = true then Q true H1 else d σ H1 Q) : tOr c d σ H Q := h
theorem r_not {c : TT} {Q : Bool → Hp → Prop} (h : c σ H fun b H1 => Q (!b) H1) : tNot c σ H Q := h
theorem r_var (h : σ[i]? = some (some v)) (q : Q v H) : tVar i σ H Q := ⟨v, h, q⟩
theorem r_c (q : Q v H) : tC v σ H Q := q
theorem r_op (h : ta σ H fun x H1 => tb σ H1 fun y H2 => r x y H2 Q) : tOp r ta tb σ H Q := h
theorem r_un {r : V → Hp → VK → Prop} (h : ta σ H fun x H1 => r x H1 Q) : tUn r ta σ H Q := h
theorem r_U {g : Int → V} {i : Int} (q : Q (g i) H) : rU g (.int i) H Q := ⟨i, rfl, q⟩
theorem r_I0 {g : Int → Int → V} {i j : Int} (q : Q (g i j) H) : rI0 g (.int i) (.int j) H Q := ⟨i, j, rfl, rfl, q⟩
theorem r_I {C : Int → Int → Prop} {g : Int → Int → V} {i j : Int} (hc : C i j) (q : Q (g i j) H) : rI C g (.int i) (.int j) H Q := ⟨i, j, rfl, rfl, hc, q⟩
theorem r_nil {Q : List V → Hp → Prop} (q : Q [] H) : tNil σ H Q := q
theorem r_cons {tr : TA} {Q : List V → Hp → Prop} (h : ta σ H fun x H1 => tr σ H1 fun xs H2 => Q (x :: xs) H2) : tCons ta tr σ H Q := h
theorem r_cb {r : List V → Hp → VK → Prop} {tr : TA} (h : tr σ H fun vs H1 => r vs H1 Q) : tCB r tr σ H Q := h
theorem r_call {sp : Sp} {dvs : List V} {E : XK} {tr : TA} (h : tr σ H fun vs H1 => sp (vs ++ dvs) H1 Q E) : tCall sp dvs E tr σ H Q := h
theorem r_bl {b : Bool} {P : Bool → Prop} (q : P b) : ∃ k, V.bl b = V.bl k ∧ P k := ⟨b, rfl, q⟩
theorem r_eq {a b : V} (hs : scal a b = true) (q : Q (.bl (decide (a = b))) H) : rEq a b H Q := ⟨hs, q⟩
theorem r_ne {a b : V} (hs : scal a b = true) (q : Q (.bl (!decide (a = b))) H) : rNe a b H Q := ⟨hs, q⟩
theorem r_lst {tr : TA} (h : tr σ H fun xs H1 => xs.length ≤ sizeLine ∧ NewL xs Q H1) : tLst tr σ H Q := h
theorem r_tup {tr : TA} (h : tr σ H fun xs H1 => xs.length ≤ sizeLine ∧ NewT xs Q H1) : tTup tr σ H Q := h
theorem r_lstRg (h : ta σ H fun x H1 => ∃ n, x = .int n ∧ RgOk 0 n ∧ NewL (rgV 0 n) Q H1) : tLstRg (tRg1 ta) σ H Q := h
theorem r_tupRg (h : ta σ H fun x H1 => ∃ n, x = .int n ∧ RgOk 0 n ∧ NewT (rgV 0 n) Q H1) : tTupRg (tRg1 ta) σ H Q := h
theorem r_bm {K : PySem.W.Frag} {T : String} {r : V → List V → Hp → VK → Prop} {tr : TA} (h : te σ H fun x H1 => tyV K T x H1 ∧ tr σ H1 fun xs H2 => r x xs H2 Q) : tBM K T r te tr σ H Q := h
theorem r_bmL {K : PySem.W.Frag} {l : Addr} {ys : List V} {A : Prop} (h : H l = some (.lst ys)) (q : A) : tyV K "list" (.ref l) H ∧ A := ⟨Or.inl ⟨rfl, ys, SqL.of h⟩, q⟩
theorem r_sub {Q : List (Option V) → Hp → Prop} {ts : TSet} (h : ta σ H fun o H1 => tb σ H1 fun i H2 => ts o i v H2 fun H3 => Q σ H3) : gSub ta tb ts v σ H Q := h
theorem r_m1 {r : V → List V → Hp → VK → Prop} (h : ta σ H fun x H1 => (∃ a, x = .str a) ∧ tb σ H1 fun y H2 => r x [y] H2 Q) : tM1 r ta tb σ H Q := h
theorem r_m0 {r : V → List V → Hp → VK → Prop} (h : ta σ H fun x H1 => (∃ a, x = .str a) ∧ r x [] H1 Q) : tM0 r ta σ H Q := h
theorem r_isS {z : Str} {A : Prop} (q : A) : (∃ a, V.str z = .str a) ∧ A := ⟨⟨z, rfl⟩, q⟩
theorem r_sl {r : V → Option Int → Option Int → Hp → VK → Prop} {tl th : TO} (h : te σ H fun x H1 => tl σ H1 fun l H2 => th σ H2 fun u H3 => r x l u H3 Q) : tSl r te tl th σ H Q := h
theorem r_part {Q : Option Int → Hp → Prop} (h : te σ H fun x H1 => ∃ i, x = .int i ∧ Q (some i) H1) : tPart te σ H Q := h
theorem r_nopart {Q : Option Int → Hp → Prop} (h : Q none H) : tNoPart σ H Q := h
theorem r_partI {P : Int → Prop} {j : Int} (q : P j) : ∃ i, V.int j = .int i ∧ P i := ⟨j, rfl, q⟩
theorem r_thru (h : t { D with nx := u D } σ H) : tThru t u D σ H := h
theorem new_lst {xs : List V} (hz : xs.length ≤ sizeLine) (h : ∀ p H', H p = none → Same H H' → H' p = some (.lst xs) → Q (.ref p) H') : xs.length ≤ sizeLine ∧ NewL xs Q H :=
  ⟨hz, fun p hp => h p _ hp (Same.new hp) upd_same⟩
theorem new_tup {xs : List V} (hz : xs.length ≤ sizeLine) (h : ∀ p H', H p = none → Same H H' → H' p = some (.tup xs) → Q (.ref p) H') : xs.length ≤ sizeLine ∧ NewT xs Q H :=
  ⟨hz, fun p hp => h p _ hp (Same.new hp) upd_same⟩
theorem newL {xs : List V} (h : ∀ p H', H p = none → Same H H' → H' p = some (.lst xs) → Q (.ref p) H') : NewL xs Q H := fun p hp => h p _ hp (Same.new hp) upd_same
theorem newT {xs : List V} (h : ∀ p H', H p = none → Same H H' → H' p = some (.tup xs) → Q (.ref p) H') : NewT xs Q H := fun p hp => h p _ hp (Same.new hp) upd_same
theorem rgV_nis (n : Nat) : rgV 0 (n : Int) = nis (List.range n) := by
  unfold rgV
  rw [Int.sub_zero, Int.toNat_natCast]
  apply List.map_congr_left
  intro i _
  show V.int (0 + (i : Int)) = V.int (i : Int)
  rw [Int.zero_add]
theorem r_lstRgN {n : Nat} (hz : n ≤ 1000) (h : ∀ p H', H p = none → Same H H' → H' p = some (.lst (nis (List.range n))) → Q (.ref p) H') : ∃ k, ni n = .int k ∧ RgOk 0 k ∧ NewL (rgV 0 k) Q H :=
  ⟨(n : Int), rfl, RgOk.of_le (by omega) (by omega) (by omega) (by omega), by rw [rgV_nis]; exact newL h⟩
theorem r_tupRgN {n : Nat} (hz : n ≤ 1000) (h : ∀ p H', H p = none → Same H H' → H' p = some (.tup (nis (List.range n))) → Q (.ref p) H') : ∃ k, ni n = .int k ∧ RgOk 0 k ∧ NewT (rgV 0 k) Q H :=
  ⟨(n : Int), rfl, RgOk.of_le (by omega) (by omega) (by omega) (by omega), by rw [rgV_nis]; exact newT h⟩
/-! values -/
variable {K : PySem.W.Frag} {p l : Addr} {xs ys : List V} {z : Str}
theorem r_ixT {k : Int} (h : H p = some (.tup xs)) (hv : atI xs k = some v) (q : Q v H) : rIxT K (.ref p) (.int k) H Q := ⟨p, xs, k, v, rfl, rfl, SqT.of h, hv, q⟩
theorem r_ixL {k : Int} (h : H p = some (.lst xs)) (hv : atI xs k = some v) (q : Q v H) : rIxL K (.ref p) (.int k) H Q := ⟨p, xs, k, v, rfl, rfl, SqL.of h, hv, q⟩
theorem r_ixS {k : Int} {c : Nat} (hz : z.length ≤ sizeLine) (hv : atI z.cps.toList k = some c) (q : Q (.str ⟨#[c]⟩) H) : rIxS (.str z) (.int k) H Q := ⟨z, k, c, rfl, rfl, hz, hv, q⟩
theorem r_app (h : H l = some (.lst xs)) (hz : xs.length < sizeLine) (q : ∀ H', (∀ b, b ≠ l → H' b = H b) → H' l = some (.lst (xs ++ [y])) → Q .non H') : rAppend (.ref l) [y] H Q :=
  ⟨l, xs, y, rfl, rfl, h, hz, q _ (fun b hb => upd_ne hb) upd_same⟩
theorem r_setL {k : Int} {j : Nat} {Q : Hp → Prop} (h : H l = some (.lst xs)) (hj : ixN xs.length k = some j) (q : ∀ H', (∀ b, b ≠ l → H' b = H b) → H' l = some (.lst (xs.set j v)) → Q H') : rSetL (.ref l) (.int k) v H Q :=
  ⟨l, xs, k, j, rfl, rfl, h, hj, q _ (fun b hb => upd_ne hb) upd_same⟩
theorem but_same {H0 H' : Hp} (s : Same H0 H) (hn : H0 l = none) (b : ∀ b, b ≠ l → H' b = H b) : Same H0 H' := fun c o e => by
  rw [b c (ne_of_none e hn)]
  exact s c o e
theorem but_at {H' : Hp} {o : HO} {c : Addr} (b : ∀ b, b ≠ l → H' b = H b) (h : H c = some o) (hc : c ≠ l) : H' c = some o := by rw [b c hc]; exact h
/-- len of a list, of a tuple -/
theorem r_lenL (h : H p = some (.lst xs)) (q : Q (.int xs.length) H) : rLenQ K [.ref p] H Q := ⟨p, xs, rfl, .inl (SqL.of h), q⟩
theorem r_lenT (h : H p = some (.tup xs)) (q : Q (.int xs.length) H) : rLenQ K [.ref p] H Q := ⟨p, xs, rfl, .inr (SqT.of h), q⟩
/-- tuple(list), list(list or tuple) -/
theorem r_tupL (h : H p = some (.lst xs)) (q : ∀ l H', H l = none → Same H H' → H' l = some (.tup xs) → Q (.ref l) H') : rTupOf K [.ref p] H Q := ⟨p, xs, rfl, .inl ⟨SqL.of h, fun l hl => q l _ hl (Same.new hl) upd_same⟩⟩
theorem r_tupT (h : H p = some (.tup xs)) (q : Q (.ref p) H) : rTupOf K [.ref p] H Q := ⟨p, xs, rfl, .inr ⟨SqT.of h, q⟩⟩
theorem r_lstOf (h : H p = some (.lst xs) ∨ H p = some (.tup xs)) (q : ∀ l H', H l = none → Same H H' → H' l = some (.lst xs) → Q (.ref l) H') : rLstOf K [.ref p] H Q :=
  ⟨p, xs, rfl, h.elim (fun z => .inl (SqL.of z)) (fun z => .inr (SqT.of z)), fun l hl => q l _ hl (Same.new hl) upd_same⟩
theorem r_min2 {a b : Nat} (q : Q (ni (min a b)) H) : rMin2 [ni a, ni b] H Q := ⟨a, b, rfl, by
  have : (if (b : Int) < (a : Int) then (b : Int) else (a : Int)) = ((min a b : Nat) : Int) := by split <;> omega
  rw [this]
  exact q⟩
theorem r_max2 {a b : Nat} (q : Q (ni (max a b)) H) : rMax2 [ni a, ni b] H Q := ⟨a, b, rfl, by
  have : (if (b : Int) > (a : Int) then (b : Int) else (a : Int)) = ((max a b : Nat) : Int) := by split <;> omega
  rw [this]
  exact q⟩
theorem ixN_n {n j : Nat} (hj : j < n) : ixN n (j : Int) = some j := by
  unfold ixN
  rw [if_pos (by omega), if_pos (by omega)]
  simp
theorem nis_set (l : List Nat) (i x : Nat) : (nis l).set i (ni x) = nis (l.set i x) := by
  show (l.map ni).set i (ni x) = (l.set i x).map ni
  rw [List.map_set]
/-! dicts -/
theorem r_din {td : TE} (h : ta σ H fun y H1 => td σ H1 fun x H2 => ∃ a o, x = .ref a ∧ DGet H2 a y o ∧ Q (.bl o.isSome) H2) : tDIn ta td σ H Q := h
theorem r_dnotin {td : TE} (h : ta σ H fun y H1 => td σ H1 fun x H2 => ∃ a o, x = .ref a ∧ DGet H2 a y o ∧ Q (.bl (!o.isSome)) H2) : tDNotIn ta td σ H Q := h
theorem r_dget {n : Nat} {kvs : List (Key × V)} {P : Option V → Prop} (h : H p = some (.dK kvs)) (q : P (valV kvs (.inl (n : Int)))) : ∃ a o, V.ref p = .ref a ∧ DGet H a (ni n) o ∧ P o := ⟨p, _, rfl, DGet.k (k := .inl (n : Int)) h, q⟩
theorem r_dputs {td tv : TE} (h : tv σ H fun v H1 => td σ H1 fun x H2 => ta σ H2 fun y H3 => ∃ a H4, x = .ref a ∧ DPut H3 a y v H4 ∧ D.nx σ H4) : sDPut td ta tv D σ H := h
theorem r_dput {n : Nat} {kvs : List (Key × V)} {P : Hp → Prop} (h : H p = some (.dK kvs)) (hz : kvs.length < sizeLine) (q : ∀ H', (∀ b, b ≠ p → H' b = H b) → H' p = some (.dK (putK kvs (.inl (n : Int)) v)) → P H') : ∃ a H4, V.ref p = .ref a ∧ DPut H a (ni n) v H4 ∧ P H4 :=
  ⟨p, _, rfl, DPut.k (k := .inl (n : Int)) h hz, q _ (fun b hb => upd_ne hb) upd_same⟩
theorem r_dnew (q : ∀ p H', H p = none → Same H H' → H' p = some (.dK []) → Q (.ref p) H') : tDNewK σ H Q := fun p hp => q p _ hp (Same.new hp) upd_same
end
theorem ifD {c : Prop} [Decidable c] {A B : Prop} (h1 : c → A) (h2 : ¬ c → B) : if decide c = true then A else B := by
  by_cases h : c
  · rw [if_pos (decide_eq_true h)]; exact h1 h
  · rw [if_neg (fun z => h (of_decide_eq_true z))]; exact h2 h
theorem ifN {c : Prop} [Decidable c] {A B : Prop} (h1 : ¬ c → A) (h2 : c → B) : if (!decide c) = true then A else B := by
  by_cases h : c
  · rw [decide_eq_true h]; exact h2 h
  · rw [decide_eq_false h]; exact h1 h
theorem ifB {b : Bool} {A B : Prop} (h1 : b = true → A) (h2 : b = false → B) : if b = true then A else B := by
  cases b with
  | true => exact h1 rfl
  | false => exact h2 rfl
/-- a new object at p, of which no more is known -/
theorem new_obj {H : Hp} {o : HO} {R : Addr → Hp → Prop} (h : ∀ p H', H p = none → Same H H' → H' p = some o → R p H') : ∀ p, H p = none → R p (upd H p o) := fun p hp => h p _ hp (Same.new hp) upd_same
/-! ### loops and comprehensions, by what they walk -/
def ForJ (J : It) (g : TG) (tb : TS) (D : Ends) (σ : List (Option V)) (H1 : Hp) : Prop := ∃ W : Nat → Nat → List (Option V) → Hp → Prop, (∃ m, W 0 m σ H1) ∧ ∀ i m σ H, W i m σ H →
  (J.stop i H ∧ D.nx σ H) ∨ (J.go i H ∧ ∃ N : List (Option V) → Hp → Prop, (∀ σ' H', N σ' H' → ∃ m', m' < m ∧ W (i + 1) m' σ' H') ∧ ∀ x H', J.yld i H x H' → g x σ H' fun σ2 H2 => tb { D with nx := N, ct := N, bk := D.nx } σ2 H2)
def LcJ (J : It) (g : TG) (tt : TT) (te : TE) (vs : List Nat) (σ : List (Option V)) (Q : VK) (H1 : Hp) : Prop := ∀ D, H1 D = none → ∃ W : Nat → Nat → Hp → Prop, (∃ m, W 0 m (upd H1 D (.lst []))) ∧ ∀ i m H, W i m H →
  (J.stop i H ∧ Q (.ref D) H) ∨ (J.go i H ∧ ∃ Nx : Hp → Prop, (∀ H', Nx H' → ∃ m', m' < m ∧ W (i + 1) m' H') ∧ ∀ x H', J.yld i H x H' → g x (wipe σ vs) H' fun σ2 H2 => wipe σ2 vs = wipe σ vs ∧ tt σ2 H2 fun b H3 =>
    if b = true then te σ2 H3 fun y H4 => ∃ acc, H4 D = some (.lst acc) ∧ acc.length < sizeLine ∧ Nx (upd H4 D (.lst (acc ++ [y]))) else Nx H3)
section
variable {D : Ends} {σ : List (Option V)} {H : Hp} {Q : VK} {te tl : TE} {tt : TT} {tb : TS} {g : TG} {vs : List Nat} {K : PySem.W.Frag} {p : Addr} {xs : List V} {l : List Nat} {j : Nat}
theorem r_for {wi : TI} (h : wi σ H fun J H1 => ForJ J g tb D σ H1) : tFor wi g tb D σ H := h
theorem r_lc {wi : TI} (h : wi σ H fun J H1 => LcJ J g tt te vs σ Q H1) : tLc wi g tt te vs σ H Q := h
theorem r_iList {R : It → Hp → Prop} (h : tl σ H fun x H1 => ∃ a, x = .ref a ∧ (∃ xs, SqL K H1 a xs) ∧ R (Itl K a) H1) : iList K tl σ H R := h
theorem r_iTup {R : It → Hp → Prop} (h : tl σ H fun x H1 => ∃ a, x = .ref a ∧ (∃ xs, SqT K H1 a xs) ∧ R (Itt K a) H1) : iTup K tl σ H R := h
theorem r_iSeq {R : It → Hp → Prop} (h : tl σ H fun x H1 => ∃ a, x = .ref a ∧ ((∃ xs, SqL K H1 a xs) ∧ R (Itl K a) H1 ∨ (∃ xs, SqT K H1 a xs) ∧ R (Itt K a) H1)) : iSeq K tl σ H R := h
theorem r_iRng1 {ta : TA} {R : It → Hp → Prop} (h : ta σ H fun vs H1 => ∃ j : Int, vs = [.int j] ∧ -(2 ^ 62) ≤ j ∧ j < 2 ^ 62 ∧ R (Itr 0 j.toNat) H1) : iRng1 ta σ H R := h
theorem r_iRng2 {ta : TA} {R : It → Hp → Prop} (h : ta σ H fun vs H1 => ∃ i j : Int, vs = [.int i, .int j] ∧ (-(2 ^ 62) ≤ i ∧ i < 2 ^ 62 ∧ -(2 ^ 62) ≤ j ∧ j < 2 ^ 62) ∧ R (Itr i (j - i).toNat) H1) : iRng2 ta σ H R := h
theorem r_itl {P : Addr → Prop} (h : H p = some (.lst xs)) (q : P p) : ∃ a, V.ref p = .ref a ∧ (∃ xs, SqL K H a xs) ∧ P a := ⟨p, rfl, ⟨xs, SqL.of h⟩, q⟩
theorem r_itt {P : Addr → Prop} (h : H p = some (.tup xs)) (q : P p) : ∃ a, V.ref p = .ref a ∧ (∃ xs, SqT K H a xs) ∧ P a := ⟨p, rfl, ⟨xs, SqT.of h⟩, q⟩
theorem r_rng1 {n : Nat} {P : Int → Prop} (hz : n ≤ 1000) (q : P (n : Int)) : ∃ j : Int, [ni n] = [.int j] ∧ -(2 ^ 62) ≤ j ∧ j < 2 ^ 62 ∧ P j := ⟨n, rfl, by omega, by omega, q⟩
theorem r_rng2 {e1 e2 : Int} {P : Int → Int → Prop} (hz : -1000 ≤ e1 ∧ e1 ≤ 1000 ∧ -1000 ≤ e2 ∧ e2 ≤ 1000) (q : P e1 e2) : ∃ i j : Int, [V.int e1, V.int e2] = [.int i, .int j] ∧ (-(2 ^ 62) ≤ i ∧ i < 2 ^ 62 ∧ -(2 ^ 62) ≤ j ∧ j < 2 ^ 62) ∧ P i j :=
  ⟨e1, e2, rfl, ⟨by omega, by omega, by omega, by omega⟩, q⟩
theorem int0 (i : Nat) : V.int ((0 : Int) + (i : Int)) = ni i := by rw [Int.zero_add]
theorem int1 (i : Nat) : V.int ((1 : Int) + (i : Int)) = ni (i + 1) := by rw [Int.add_comm]; rfl
theorem forL (Pv : Nat → List (Option V) → Hp → Prop) (h0 : Pv 0 σ H) (hl : ∀ i σ H, i ≤ xs.length → Pv i σ H → H p = some (.lst xs))
    (hs : ∀ i x σ H, xs[i]? = some x → Pv i σ H → g x σ H fun σ2 H2 => tb { D with nx := Pv (i + 1), ct := Pv (i + 1), bk := D.nx } σ2 H2) (hd : ∀ σ H, Pv xs.length σ H → D.nx σ H) : ForJ (Itl K p) g tb D σ H :=
  for_list Pv h0 (fun i σ H h1 h2 => SqL.of (hl i σ H h1 h2)) hs hd
theorem forT (Pv : Nat → List (Option V) → Hp → Prop) (h0 : Pv 0 σ H) (hl : ∀ i σ H, i ≤ xs.length → Pv i σ H → H p = some (.tup xs))
    (hs : ∀ i x σ H, xs[i]? = some x → Pv i σ H → g x σ H fun σ2 H2 => tb { D with nx := Pv (i + 1), ct := Pv (i + 1), bk := D.nx } σ2 H2) (hd : ∀ σ H, Pv xs.length σ H → D.nx σ H) : ForJ (Itt K p) g tb D σ H :=
  for_tup Pv h0 (fun i σ H h1 h2 => SqT.of (hl i σ H h1 h2)) hs hd
/-- range(n) -/
theorem forR0 {n : Nat} {j : Nat} (Pv : Nat → List (Option V) → Hp → Prop) (h0 : Pv 0 σ H) (hs : ∀ i σ H, i < n → Pv i σ H → tb { D with nx := Pv (i + 1), ct := Pv (i + 1), bk := D.nx } (σ.set j (some (ni i))) H) (hd : ∀ σ H, Pv n σ H → D.nx σ H) : ForJ (Itr 0 n) (gName j) tb D σ H :=
  for_range Pv h0 (fun i σ H h1 h2 => by
    rw [int0]
    exact hs i σ H h1 h2) hd
/-- range(1, n + 1) -/
theorem forR1 {n : Nat} {j : Nat} (Pv : Nat → List (Option V) → Hp → Prop) (h0 : Pv 0 σ H) (hs : ∀ i σ H, i < n → Pv i σ H → tb { D with nx := Pv (i + 1), ct := Pv (i + 1), bk := D.nx } (σ.set j (some (ni (i + 1)))) H) (hd : ∀ σ H, Pv n σ H → D.nx σ H) : ForJ (Itr 1 n) (gName j) tb D σ H :=
  for_range Pv h0 (fun i σ H h1 h2 => by
    rw [int1]
    exact hs i σ H h1 h2) hd
theorem wipe1 (σ : List (Option V)) (j : Nat) (x : V) : wipe ((wipe σ [j]).set j (some x)) [j] = wipe σ [j] := by
  show ((σ.set j none).set j (some x)).set j none = σ.set j none
  rw [List.set_set, List.set_set]
/-- what a comprehension has made -/
structure LcAt (H : Hp) (D : Addr) (acc : List V) (H' : Hp) : Prop where
  new : H D = none
  same : Same H H'
  at_ : H' D = some (.lst acc)
theorem LcAt.start {D : Addr} (h : H D = none) : LcAt H D [] (upd H D (.lst [])) := ⟨h, Same.new h, upd_same⟩
theorem LcAt.more {D : Addr} {acc : List V} {H' H'' : Hp} {y : V} (h : LcAt H D acc H') (s : Same H' H'') : LcAt H D (acc ++ [y]) (upd H'' D (.lst (acc ++ [y]))) := ⟨h.new, Same.mut (h.same.trans s) h.new, upd_same⟩
/-- values, one a turn: over a list, a tuple, a range -/
theorem lcL (f : Nat → V) (h : H p = some (.lst xs)) (hz : xs.length ≤ 1000) (hs : ∀ i x H' (R : VK), xs[i]? = some x → Same H H' → (∀ H'', Same H' H'' → R (f i) H'') → te ((wipe σ [j]).set j (some x)) H' R)
    (q : ∀ D H', H D = none → Same H H' → H' D = some (.lst ((List.range xs.length).map f)) → Q (.ref D) H') : LcJ (Itl K p) (gName j) tYes te [j] σ Q H := fun D hD =>
  lc_list (xs := xs) (fun i H' => LcAt H D ((List.range i).map f) H') (.start hD) (fun i H' _ a => SqL.of (a.same _ _ h)) (fun i x H' hi a => ⟨wipe1 σ j x, by
    show te _ H' _
    refine hs i x H' _ hi a.same fun H'' s => ⟨_, s _ _ a.at_, smaller (by have := (List.getElem?_eq_some_iff.mp hi).1; rw [List.length_map, List.length_range]; omega), ?_⟩
    have := a.more (y := f i) s
    rw [List.range_succ, List.map_append]
    exact this⟩) fun H' a => q D H' a.new a.same a.at_
theorem lcT (f : Nat → V) (h : H p = some (.tup xs)) (hz : xs.length ≤ 1000) (hs : ∀ i x H' (R : VK), xs[i]? = some x → Same H H' → (∀ H'', Same H' H'' → R (f i) H'') → te ((wipe σ [j]).set j (some x)) H' R)
    (q : ∀ D H', H D = none → Same H H' → H' D = some (.lst ((List.range xs.length).map f)) → Q (.ref D) H') : LcJ (Itt K p) (gName j) tYes te [j] σ Q H := fun D hD =>
  lc_tup (xs := xs) (fun i H' => LcAt H D ((List.range i).map f) H') (.start hD) (fun i H' _ a => SqT.of (a.same _ _ h)) (fun i x H' hi a => ⟨wipe1 σ j x, by
    show te _ H' _
    refine hs i x H' _ hi a.same fun H'' s => ⟨_, s _ _ a.at_, smaller (by have := (List.getElem?_eq_some_iff.mp hi).1; rw [List.length_map, List.length_range]; omega), ?_⟩
    have := a.more (y := f i) s
    rw [List.range_succ, List.map_append]
    exact this⟩) fun H' a => q D H' a.new a.same a.at_
theorem lcR {n : Nat} (f : Nat → V) (hz : n ≤ 1000) (hs : ∀ i H' (R : VK), i < n → Same H H' → (∀ H'', Same H' H'' → R (f i) H'') → te ((wipe σ [j]).set j (some (ni i))) H' R)
    (q : ∀ D H', H D = none → Same H H' → H' D = some (.lst ((List.range n).map f)) → Q (.ref D) H') : LcJ (Itr 0 n) (gName j) tYes te [j] σ Q H := fun D hD =>
  lc_range (fun i H' => LcAt H D ((List.range i).map f) H') (.start hD) (fun i H' hi a => ⟨wipe1 σ j _, by
    show te _ H' _
    rw [int0]
    refine hs i H' _ hi a.same fun H'' s => ⟨_, s _ _ a.at_, smaller (by rw [List.length_map, List.length_range]; omega), ?_⟩
    have := a.more (y := f i) s
    rw [List.range_succ, List.map_append]
    exact this⟩) fun H' a => q D H' a.new a.same a.at_
/-- those that pass a test -/
theorem lcF (f : Nat → Bool) (h : H p = some (.lst (nis l))) (hz : l.length ≤ 1000) (hs : ∀ i (hi : i < l.length) H' (R : Bool → Hp → Prop), Same H H' → (∀ H'', Same H' H'' → R (f l[i]) H'') → tt ((wipe σ [j]).set j (some (ni l[i]))) H' R) (hj : j < σ.length)
    (q : ∀ D H', H D = none → Same H H' → H' D = some (.lst (nis (l.filter f))) → Q (.ref D) H') : LcJ (Itl K p) (gName j) tt (tVar j) [j] σ Q H := fun D hD =>
  lc_list (xs := nis l) (fun i H' => LcAt H D (nis ((l.take i).filter f)) H') (.start hD) (fun i H' _ a => SqL.of (a.same _ _ h)) (fun i x H' hi a => ⟨wipe1 σ j x, by
    obtain ⟨hl, rfl⟩ := of_nis hi
    refine hs i hl H' _ a.same fun H'' s => ?_
    have e : (l.take (i + 1)).filter f = (l.take i).filter f ++ (if f l[i] = true then [l[i]] else []) := by
      rw [List.take_add_one, List.getElem?_eq_getElem hl, List.filter_append]
      congr 1
      show [l[i]].filter f = _
      by_cases c : f l[i] = true
      · rw [if_pos c, List.filter_cons_of_pos c]; rfl
      · rw [if_neg c, List.filter_cons_of_neg c]; rfl
    have hlen : ((l.take i).filter f).length ≤ 1000 := by
      have h1 := List.length_filter_le f (l.take i)
      rw [List.length_take] at h1
      omega
    by_cases c : f l[i] = true
    · rw [c]
      refine iteT ⟨_, List.getElem?_set_self (by rw [wipe_length]; exact hj), _, s _ _ a.at_, smaller (by rw [nis_len]; omega), ?_⟩
      have := a.more (y := ni l[i]) s
      rw [e, if_pos c, nis_app]
      exact this
    · rw [Bool.not_eq_true] at c
      rw [c]
      refine iteF ?_
      rw [e, c]
      refine ⟨a.new, a.same.trans s, ?_⟩
      rw [s _ _ a.at_]
      simp⟩) fun H' a => q D H' a.new a.same (by rw [a.at_, nis_len, List.take_length])
theorem r_ext {b : Addr} {zs : List V} (h : H p = some (.lst xs)) (hb : H b = some (.lst zs) ∨ H b = some (.tup zs)) (hz : xs.length + zs.length ≤ sizeLine) (q : ∀ H', (∀ b, b ≠ p → H' b = H b) → H' p = some (.lst (xs ++ zs)) → Q .non H') : rExtS (.ref p) [.ref b] H Q :=
  ⟨p, b, xs, zs, rfl, rfl, h, hb, hz, q _ (fun b hb => upd_ne hb) upd_same⟩
theorem flat_nis (l : List Nat) : (nis l).all flatV = true := by
  rw [List.all_eq_true]
  intro x hx
  obtain ⟨n, _, rfl⟩ := List.mem_map.mp hx
  rfl
theorem eqV_ni (a b : Nat) : eqV (ni a) (ni b) = decide (a = b) := by
  show ((a : Int) == (b : Int)) = _
  by_cases h : a = b
  · subst h; simp
  · have : ¬ (a : Int) = (b : Int) := by omega
    simp [h, this]
theorem inV_nis (n : Nat) : ∀ l : List Nat, inV (ni n) (nis l) = decide (n ∈ l)
  | [] => rfl
  | a :: l => by
    show (eqV (ni a) (ni n) || inV (ni n) (nis l)) = _
    rw [eqV_ni, inV_nis n l]
    by_cases h : n = a
    · subst h; simp
    · have : ¬ a = n := fun z => h z.symm
      simp [h, this]
theorem r_inL {n : Nat} (h : H p = some (.lst (nis l))) (q : Q (.bl (decide (n ∈ l))) H) : rIn K false (ni n) (.ref p) H Q := ⟨p, nis l, rfl, .inl (SqL.of h), rfl, flat_nis l, by rw [inV_nis]; exact q⟩
theorem r_ninL {n : Nat} (h : H p = some (.lst (nis l))) (q : Q (.bl (!decide (n ∈ l))) H) : rIn K true (ni n) (.ref p) H Q := ⟨p, nis l, rfl, .inl (SqL.of h), rfl, flat_nis l, by rw [inV_nis]; exact q⟩
theorem r_ninT {n : Nat} (h : H p = some (.tup (nis l))) (q : Q (.bl (!decide (n ∈ l))) H) : rIn K true (ni n) (.ref p) H Q := ⟨p, nis l, rfl, .inr (SqT.of h), rfl, flat_nis l, by rw [inV_nis]; exact q⟩
theorem range_map_get {xs : List V} {f : Nat → V} (h : ∀ i, i < xs.length → xs[i]? = some (f i)) : (List.range xs.length).map f = xs := by
  apply List.ext_getElem?
  intro i
  by_cases hi : i < xs.length
  · rw [List.getElem?_map, List.getElem?_range hi, h i hi]
    rfl
  · rw [List.getElem?_eq_none (by simp; omega), List.getElem?_eq_none (by omega)]
end
/-! ### the rules over K by its name -/
section
variable {X : Cx} {K : PySem.W.Frag}
theorem k_len (h : X.K = K) : CallR X (.builtin "len") (rLenQ K) := h ▸ call_lenQ
theorem k_tupOf (h : X.K = K) : CallR X (.type "tuple") (rTupOf K) := h ▸ call_tupOf
theorem k_lstOf (h : X.K = K) : CallR X (.type "list") (rLstOf K) := h ▸ call_lstOf
theorem k_join (h : X.K = K) : MtR X "str.join" (rJoin K) := h ▸ mt_joinN
theorem k_ixL (h : X.K = K) : IxR X (rIxL K) := h ▸ ix_list
theorem k_ixT (h : X.K = K) : IxR X (rIxT K) := h ▸ ix_tup
theorem k_ixQ (h : X.K = K) : IxR X (rIx K) := h ▸ ix_seq
theorem k_in (h : X.K = K) : OpR X (compareOp .In) (rIn K false) := h ▸ op_in_seq
theorem k_nin (h : X.K = K) : OpR X (compareOp .NotIn) (rIn K true) := h ▸ op_notIn_seq
theorem k_eqD (h : X.K = K) (hu : X.A.units + 64 < cLine) : OpR X (compareOp .Eq) (rEqD K) := h ▸ op_eqD hu
theorem k_neD (h : X.K = K) (hu : X.A.units + 64 < cLine) : OpR X (compareOp .NotEq) (rNeD K) := h ▸ op_neD hu
theorem k_inD (h : X.K = K) (hu : X.A.units + 65 < cLine) : OpR X (compareOp .In) (rInD K) := h ▸ op_inD hu
theorem k_sum (h : X.K = K) (hc : X.calm = true) : CallR X (.builtin "sum") (rSum K) := h ▸ cr_sum hc
theorem k_max (h : X.K = K) (hc : X.calm = true) : CallR X (.builtin "max") (rMax K) := h ▸ cr_max hc
theorem k_min (h : X.K = K) (hc : X.calm = true) : CallR X (.builtin "min") (rMin K) := h ▸ cr_min hc
theorem k_maxT (h : X.K = K) (hc : X.calm = true) : CallR X (.builtin "max") (rMaxT K) := h ▸ cr_maxT hc
theorem k_minT (h : X.K = K) (hc : X.calm = true) : CallR X (.builtin "min") (rMinT K) := h ▸ cr_minT hc
theorem k_sortedI (h : X.K = K) : CallR X (.builtin "sorted") (rSortedI K) := h ▸ cr_sortedI
theorem k_sortedT (h : X.K = K) : CallR X (.builtin "sorted") (rSortedT K) := h ▸ cr_sortedTup
theorem k_index (h : X.K = K) : MtR X "list.index" (rIndex K) := h ▸ mt_index
theorem k_slL (h : X.K = K) : SlR X (rSlL K) := h ▸ sl_list
theorem k_slT (h : X.K = K) : SlR X (rSlA K) := h ▸ sl_tupA
theorem k_list {tg l : Expr} {tl : TE} (h : X.K = K) (hl : PE X l tl) : PI X tg l (iList K tl) := h ▸ pi_list hl
theorem k_tup {tg l : Expr} {tl : TE} (h : X.K = K) (hl : PE X l tl) : PI X tg l (iTup K tl) := h ▸ pi_tup hl
theorem k_seq {tg l : Expr} {tl : TE} (h : X.K = K) (hl : PE X l tl) : PI X tg l (iSeq K tl) := h ▸ pi_seq hl
theorem k_enum {e : Expr} {ta : TA} {p pos tpos : Pos} {elts : List Expr} {kk : Nat} (h : X.K = K) (hg : Gl X "enumerate") (hm : X.mg "enumerate" = none) (ha : PA X [e] ta) (hs : starEach [e] X.env = [(false, eval e X.env)] := by rfl) :
    PI X (.Tuple elts kk tpos) (.Call (.Name "enumerate" p) [e] [] pos) (iEnum K ta) := h ▸ pi_enum hg hm ha hs
theorem k_gTup {es : List Expr} {k : Nat} {t : TGs} {n : Nat} {pos : Pos} (h : X.K = K) (hc : X.calm = true) (hp : PGs X es t)
    (hn : (assignEach es X.env).length = n := by rfl) (hst : (assignEach es X.env).findIdx? (·.1) = none := by rfl) : PG X (.Tuple es k pos) (gTup K n t) := h ▸ pg_tup hc hp hn hst
theorem k_gUnl {es : List Expr} {k : Nat} {t : TGs} {n : Nat} {pos : Pos} (h : X.K = K) (hc : X.calm = true) (hp : PGs X es t)
    (hn : (assignEach es X.env).length = n := by rfl) (hst : (assignEach es X.env).findIdx? (·.1) = none := by rfl) : PG X (.Tuple es k pos) (gUnl K n t) := h ▸ pg_unl hc hp hn hst
theorem k_bm {o e : Expr} {es : List Expr} {to : TE} {t : TA} {name : Str} {apos cpos : Pos} {T id : String} {r : V → List V → Hp → VK → Prop} (h : X.K = K) (pa : PlainAttrs T) (slot : Slot T name id) (hty : typeOf (.builtin id) = pure (.type "method_descriptor")) (hm : MtR X id r) (ho : PE X o to) (ha : PA X (e :: es) t)
    (hbase : attributeBase o name X.env (eval o X.env) = eval o X.env := by rfl)
    (hfew : ((backTo cpos (starEach (e :: es) X.env)).all (fun x => !x.1) && (backToKw cpos (keywordEach [] X.env)).all (fun x => x.1.isSome)
      && decide ((e :: es).length + ([] : List Keyword).length + (if ([] : List Keyword).isEmpty then 0 else 1) < 30)) = true := by rfl)
    (hline : (apos.endLine == cpos.line) = true := by rfl) (hs : starEach (e :: es) X.env = (false, eval e X.env) :: starEach es X.env := by rfl) (hplain : (backTo cpos (starEach es X.env)).any (·.1) = false := by rfl) :
    PE X (.Call (.Attribute o name apos) (e :: es) [] cpos) (tBM K T r to t) := h ▸ pe_bm pa slot hty hm ho ha hbase hfew hline hs hplain
end
/-! ### enumerate -/
section
open Obe
variable {X : Cx} {D : Ends} {σ : List (Option V)} {H : Hp} {Q : VK} {tb : TS} {K : PySem.W.Frag} {p : Addr} {xs : List V} {j1 j2 : Nat}
theorem k_enumT {e : Expr} {ta : TA} {p pos tpos : Pos} {elts : List Expr} {kk : Nat} (h : X.K = K) (hg : Gl X "enumerate") (hm : X.mg "enumerate" = none) (ha : PA X [e] ta) (hs : starEach [e] X.env = [(false, eval e X.env)] := by rfl) :
    PI X (.Tuple elts kk tpos) (.Call (.Name "enumerate" p) [e] [] pos) (iEnumT K ta) := h ▸ pi_enumT hg hm ha hs
theorem r_iEnum {ta : TA} {R : It → Hp → Prop} (h : ta σ H fun vs H1 => ∃ a xs, vs = [.ref a] ∧ SqL K H1 a xs ∧ R (Ite K a) H1) : iEnum K ta σ H R := h
theorem r_iEnumT {ta : TA} {R : It → Hp → Prop} (h : ta σ H fun vs H1 => ∃ a xs, vs = [.ref a] ∧ SqT K H1 a xs ∧ R (IteT K a) H1) : iEnumT K ta σ H R := h
theorem r_ite {P : Addr → Prop} (h : H p = some (.lst xs)) (q : P p) : ∃ a xs, [V.ref p] = [.ref a] ∧ SqL K H a xs ∧ P a := ⟨p, xs, rfl, SqL.of h, q⟩
theorem r_iteT {P : Addr → Prop} (h : H p = some (.tup xs)) (q : P p) : ∃ a xs, [V.ref p] = [.ref a] ∧ SqT K H a xs ∧ P a := ⟨p, xs, rfl, SqT.of h, q⟩
theorem forE (Pv : Nat → List (Option V) → Hp → Prop) (h0 : Pv 0 σ H) (hl : ∀ i σ H, i ≤ xs.length → Pv i σ H → H p = some (.lst xs))
    (hs : ∀ i x σ H H', xs[i]? = some x → Pv i σ H → Same H H' → tb { D with nx := Pv (i + 1), ct := Pv (i + 1), bk := D.nx } ((σ.set j1 (some (ni i))).set j2 (some x)) H') (hd : ∀ σ H, Pv xs.length σ H → D.nx σ H) :
    ForJ (Ite K p) (gTup K 2 (gCons (gName j1) (gCons (gName j2) gNil))) tb D σ H := by
  refine ⟨fun i m σ H => m = xs.length - i ∧ i ≤ xs.length ∧ Pv i σ H, ⟨xs.length, by simp, Nat.zero_le _, h0⟩, ?_⟩
  rintro i m σ H ⟨rfl, hi, pv⟩
  have q : SqL K H p xs := SqL.of (hl i σ H hi pv)
  by_cases hlt : i < xs.length
  · refine .inr ⟨⟨xs, xs[i], q, List.getElem?_eq_getElem hlt⟩, Pv (i + 1), fun σ' H' p' => ⟨xs.length - (i + 1), by omega, rfl, hlt, p'⟩, fun x H' y => ?_⟩
    obtain ⟨T, x', rfl, nT, rfl, e⟩ := y
    exact ⟨T, [.int (i : Nat), x'], rfl, SqT.of upd_same, rfl, _, _, rfl, _, _, rfl, rfl, hs i x' σ H _ (e xs q) pv (Same.new nT)⟩
  · have e : i = xs.length := by omega
    subst e
    exact .inl ⟨⟨xs, q, Nat.le_refl _⟩, hd σ H pv⟩
theorem forET (Pv : Nat → List (Option V) → Hp → Prop) (h0 : Pv 0 σ H) (hl : ∀ i σ H, i ≤ xs.length → Pv i σ H → H p = some (.tup xs))
    (hs : ∀ i x σ H H', xs[i]? = some x → Pv i σ H → Same H H' → tb { D with nx := Pv (i + 1), ct := Pv (i + 1), bk := D.nx } ((σ.set j1 (some (ni i))).set j2 (some x)) H') (hd : ∀ σ H, Pv xs.length σ H → D.nx σ H) :
    ForJ (IteT K p) (gTup K 2 (gCons (gName j1) (gCons (gName j2) gNil))) tb D σ H := by
  refine ⟨fun i m σ H => m = xs.length - i ∧ i ≤ xs.length ∧ Pv i σ H, ⟨xs.length, by simp, Nat.zero_le _, h0⟩, ?_⟩
  rintro i m σ H ⟨rfl, hi, pv⟩
  have q : SqT K H p xs := SqT.of (hl i σ H hi pv)
  by_cases hlt : i < xs.length
  · refine .inr ⟨⟨xs, xs[i], q, List.getElem?_eq_getElem hlt⟩, Pv (i + 1), fun σ' H' p' => ⟨xs.length - (i + 1), by omega, rfl, hlt, p'⟩, fun x H' y => ?_⟩
    obtain ⟨T, x', rfl, nT, rfl, e⟩ := y
    exact ⟨T, [.int (i : Nat), x'], rfl, SqT.of upd_same, rfl, _, _, rfl, _, _, rfl, rfl, hs i x' σ H _ (e xs q) pv (Same.new nT)⟩
  · have e : i = xs.length := by omega
    subst e
    exact .inl ⟨⟨xs, q, rfl⟩, hd σ H pv⟩
/-! ### range(lo, ..), lo written or not -/
theorem forRn {lo n : Nat} {j : Nat} (Pv : Nat → List (Option V) → Hp → Prop) (h0 : Pv 0 σ H) (hs : ∀ i σ H, i < n → Pv i σ H → tb { D with nx := Pv (i + 1), ct := Pv (i + 1), bk := D.nx } (σ.set j (some (ni (lo + i)))) H) (hd : ∀ σ H, Pv n σ H → D.nx σ H) : ForJ (Itr (lo : Int) n) (gName j) tb D σ H :=
  for_range Pv h0 (fun i σ H h1 h2 => hs i σ H h1 h2) hd
/-! ### numbers -/
theorem mulN {a b : Nat} (ha : a < 2 ^ 600) (hb : b < 2 ^ 600) : CMulX (a : Int) (b : Int) := mulx_ok (a := 600) (b := 600) (by rw [Int.natAbs_natCast]; exact ha) (by rw [Int.natAbs_natCast]; exact hb) (by decide)
theorem r_mul {a b : Nat} (ha : a < 2 ^ 600) (hb : b < 2 ^ 600) (q : Q (ni (a * b)) H) : rI CMulX (fun i j => .int (i * j)) (ni a) (ni b) H Q := ⟨a, b, rfl, rfl, mulN ha hb, q⟩
theorem r_div {a b : Nat} (h0 : 0 < b) (hb : b < 2 ^ 600) (q : Q (ni (a / b)) H) : rI CDivW (fun i j => .int (i / j)) (ni a) (ni b) H Q :=
  ⟨a, b, rfl, rfl, wide_div (b := 600) (Int.natCast_pos.mpr h0) (by rw [Int.natAbs_natCast]; exact hb) (by decide) (by decide), by (show Q (V.int ((a : Int) / (b : Int))) H; rw [← Int.natCast_ediv]; exact q)⟩
theorem r_mod {a b : Nat} (h0 : 0 < b) (q : Q (ni (a % b)) H) : rI (fun _ j => 0 < j) (fun i j => .int (i % j)) (ni a) (ni b) H Q :=
  ⟨a, b, rfl, rfl, Int.natCast_pos.mpr h0, by (show Q (V.int ((a : Int) % (b : Int))) H; rw [← Int.natCast_emod]; exact q)⟩
theorem ni_add (a b : Nat) : V.int ((a : Int) + (b : Int)) = ni (a + b) := rfl
theorem ni_succ (a : Nat) : V.int ((a : Int) + 1) = ni (a + 1) := rfl
theorem ni_sub {a b : Nat} (h : b ≤ a) : V.int ((a : Int) - (b : Int)) = ni (a - b) := by
  have : ((a : Int) - (b : Int)) = ((a - b : Nat) : Int) := by omega
  rw [this]
theorem ni_pred {a : Nat} (h : 1 ≤ a) : V.int ((a : Int) - 1) = ni (a - 1) := by
  have : ((a : Int) - 1) = ((a - 1 : Nat) : Int) := by omega
  rw [this]
theorem r_par {i j : Nat} {ta : TA} (h : ta σ H fun vs H1 => ∃ v w, vs = [v, w] ∧ D.nx ((σ.set i (some v)).set j (some w)) H1) : tPar i j ta D σ H := h
theorem r_pair {v w : V} {P : V → V → Prop} (q : P v w) : ∃ v' w', [v, w] = [v', w'] ∧ P v' w' := ⟨v, w, rfl, q⟩
theorem r_augS {to ti te : TE} {tget : V → V → Hp → VK → Prop} {tip : TIp} {tset : TSet} (h : to σ H fun o H1 => ti σ H1 fun i H2 => tget o i H2 fun x H3 => te σ H3 fun y H4 => tip x y H4 fun z H5 => tset o i z H5 fun H6 => D.nx σ H6) : tAugS to ti te tget tip tset D σ H := h
theorem r_aug {i : Nat} {te : TE} {ti : TIp} {x : V} (hx : σ[i]? = some (some x)) (h : te σ H fun y H1 => ti x y H1 fun z H2 => D.nx (σ.set i (some z)) H2) : tAug i te ti D σ H := ⟨x, hx, h⟩
theorem r_ipI {f : Int → Int → Int} {a b : Int} (q : Q (.int (f a b)) H) : ipI f (.int a) (.int b) H Q := ⟨a, b, rfl, rfl, q⟩
theorem r_getL {v : V} {j : Nat} (h : H p = some (.lst xs)) (hj : xs[j]? = some v) (q : Q v H) : rGetL (.ref p) (ni j) H Q := ⟨p, xs, j, v, rfl, rfl, h, hj, q⟩
theorem r_maxL {l : List Nat} (h : H p = some (.lst (nis l))) (hne : 0 < l.length) (q : ∀ m, m ∈ l → (∀ y ∈ l, y ≤ m) → Q (ni m) H) : rMax K [.ref p] H Q :=
  ⟨p, zs l, rfl, by rw [← nis_eq]; exact SqL.of h, by rw [List.length_map]; exact hne, fun m hm hy => by
    obtain ⟨x, hx, rfl⟩ := List.mem_map.mp hm
    exact q x hx fun y hy' => by have := hy _ (List.mem_map.mpr ⟨y, hy', rfl⟩); omega⟩
theorem r_maxT {l : List Nat} (h : H p = some (.tup (nis l))) (hne : 0 < l.length) (q : ∀ m, m ∈ l → (∀ y ∈ l, y ≤ m) → Q (ni m) H) : rMaxT K [.ref p] H Q :=
  ⟨p, zs l, rfl, by rw [← nis_eq]; exact SqT.of h, by rw [List.length_map]; exact hne, fun m hm hy => by
    obtain ⟨x, hx, rfl⟩ := List.mem_map.mp hm
    exact q x hx fun y hy' => by have := hy _ (List.mem_map.mpr ⟨y, hy', rfl⟩); omega⟩
theorem r_minT {l : List Nat} (h : H p = some (.tup (nis l))) (hne : 0 < l.length) (q : ∀ m, m ∈ l → (∀ y ∈ l, m ≤ y) → Q (ni m) H) : rMinT K [.ref p] H Q :=
  ⟨p, zs l, rfl, by rw [← nis_eq]; exact SqT.of h, by rw [List.length_map]; exact hne, fun m hm hy => by
    obtain ⟨x, hx, rfl⟩ := List.mem_map.mp hm
    exact q x hx fun y hy' => by have := hy _ (List.mem_map.mpr ⟨y, hy', rfl⟩); omega⟩
theorem zs_sum : ∀ l : List Nat, (zs l).sum = ((l.sum : Nat) : Int)
  | [] => rfl
  | a :: l => by
    show ((a : Int) :: zs l).sum = _
    rw [List.sum_cons, zs_sum l, List.sum_cons]
    rfl
theorem r_sumL {l : List Nat} (h : H p = some (.lst (nis l))) (q : Q (ni l.sum) H) : rSum K [.ref p] H Q := ⟨p, zs l, rfl, by rw [← nis_eq]; exact SqL.of h, by rw [zs_sum]; exact q⟩
end
/-! ### range(lo, hi, step) -/
section
variable {D : Ends} {σ : List (Option V)} {H : Hp} {Q : VK} {tb : TS} {K : PySem.W.Frag} {p : Addr} {xs : List V}
theorem rgc_up {a b c : Int} {n : Nat} (hc : 0 < c) (hc2 : c ≤ 1000) (ha : -1000 ≤ a) (ha2 : a ≤ 1000) (hb : -1000 ≤ b) (hb2 : b ≤ 1000) (hn : Builtin.Range.rangeSize a b c = n) (hn2 : n ≤ 1000) : RgC a b c n := by
  refine ⟨by omega, by omega, ?_, hn⟩
  unfold Builtin.Range.small
  rw [hn]
  have h1 : c * (n : Int) ≤ 1000 * 1000 := by
    have := Int.mul_le_mul hc2 (show (n : Int) ≤ 1000 by omega) (by omega) (by omega)
    exact this
  have h0 : 0 ≤ c * (n : Int) := Int.mul_nonneg (by omega) (by omega)
  have h3 : (n : Int) * c = c * (n : Int) := Int.mul_comm _ _
  simp only [Builtin.Range.rangeFitsLong, Bool.and_eq_true, Bool.or_eq_true, decide_eq_true_eq, beq_iff_eq, if_pos hc, show c > 0 from hc, if_true]
  omega
theorem r_iRng3 {ta : TA} {R : It → Hp → Prop} (h : ta σ H fun vs H1 => ∃ (i j c : Int) (n : Nat), vs = [.int i, .int j, .int c] ∧ RgC i j c n ∧ R (Itc i c n) H1) : iRng3 ta σ H R := h
theorem r_rng3 {e1 e2 e3 : Int} {n : Nat} {P : Int → Int → Nat → Prop} (h : RgC e1 e2 e3 n) (q : P e1 e3 n) : ∃ (i j c : Int) (n : Nat), [V.int e1, V.int e2, V.int e3] = [.int i, .int j, .int c] ∧ RgC i j c n ∧ P i c n := ⟨e1, e2, e3, n, rfl, h, q⟩
theorem forC {lo c : Int} {n : Nat} {j : Nat} (g : Nat → Nat) (hg : ∀ i, i < n → lo + (i : Nat) * c = ((g i : Nat) : Int)) (Pv : Nat → List (Option V) → Hp → Prop) (h0 : Pv 0 σ H) (hs : ∀ i σ H, i < n → Pv i σ H → tb { D with nx := Pv (i + 1), ct := Pv (i + 1), bk := D.nx } (σ.set j (some (ni (g i)))) H) (hd : ∀ σ H, Pv n σ H → D.nx σ H) : ForJ (Itc lo c n) (gName j) tb D σ H :=
  for_rangeC Pv h0 (fun i σ H h1 h2 => by
    rw [hg i h1]
    exact hs i σ H h1 h2) hd
theorem nis_erase (l : List Nat) (i : Nat) : (nis l).eraseIdx i = nis (l.eraseIdx i) := by
  rw [List.eraseIdx_eq_take_drop_succ, List.eraseIdx_eq_take_drop_succ, nis_app]
  show (l.map ni).take i ++ (l.map ni).drop (i + 1) = (l.take i).map ni ++ (l.drop (i + 1)).map ni
  rw [List.map_take, List.map_drop]
theorem seq_n {i n : Nat} (h : i < n) : seqIndex? (i : Int) n = some i := by
  unfold seqIndex?
  simp [h] <;> omega
theorem r_popAt {l : List Nat} {i : Nat} (h : H p = some (.lst (nis l))) (hi : i < l.length) (hz : l.length ≤ 1000) (q : ∀ H', (∀ b, b ≠ p → H' b = H b) → H' p = some (.lst (nis (l.eraseIdx i))) → Q (ni l[i]) H') : rPopAt (.ref p) [ni i] H Q :=
  ⟨p, nis l, i, i, ni l[i], rfl, rfl, h, by omega, by omega, seq_n (by rw [nis_len]; exact hi), nis_get hi, q _ (fun b hb => upd_ne hb) (by rw [upd_same, nis_erase])⟩
theorem r_index {l : List Nat} {n : Nat} (h : H p = some (.lst (nis l))) (hn : n ∈ l) (q : Q (ni (l.idxOf n)) H) : rIndex K (.ref p) [ni n] H Q := by
  have hi : l.idxOf n < l.length := List.idxOf_lt_length_of_mem hn
  refine ⟨p, nis l, ni n, l.idxOf n, ni n, rfl, rfl, SqL.of h, rfl, flat_nis l, ?_, by rw [eqV_ni]; exact decide_eq_true rfl, fun m z hm hz => ?_, q⟩
  · rw [nis_get hi, List.getElem_idxOf hi]
  · obtain ⟨hml, rfl⟩ := of_nis hz
    rw [eqV_ni]
    refine decide_eq_false fun e => ?_
    have := List.not_of_lt_findIdx (p := (· == n)) (xs := l) (show m < l.findIdx _ from hm)
    simp [e] at this
end
end Obw
set_option maxHeartbeats 4000000
set_option Elab.async false
set_option linter.all false
set_option maxRecDepth 100000
set_option maxHeartbeats 0
namespace Obh
open PySem PySem.Spec PyProof.Rows L2
/-! ### the text by places -/
def top (i : Nat) : Stmt := PySem.Challenge.pw_ownboxes_k64_whole_from_text_to_answers.main.body.getD i (.Pass ⟨0, 0, 0, 0⟩)
abbrev sis_each_once : Stmt := top 12
abbrev sring_from : Stmt := top 13
abbrev srings_of : Stmt := top 14
abbrev sorder_by : Stmt := top 15
abbrev sexchanged : Stmt := top 16
abbrev slook_at_openings : Stmt := top 18
abbrev smade_openings : Stmt := top 19
abbrev sboxes_followed : Stmt := top 20
abbrev sfinders : Stmt := top 21
abbrev slook_at_counts : Stmt := top 24
abbrev sproduct_of : Stmt := top 25
abbrev sby_rings : Stmt := top 26
abbrev smany_good : Stmt := top 27
abbrev ssets_row : Stmt := top 28
abbrev swith_one_more : Stmt := top 29
abbrev smany_all : Stmt := top 30
abbrev sdivisor_of : Stmt := top 31
abbrev sshare : Stmt := top 32
abbrev slook_at_group : Stmt := top 34
abbrev sfound_by_just : Stmt := top 35
abbrev smany_all_of : Stmt := top 36
abbrev slook_at_help : Stmt := top 38
abbrev sneed : Stmt := top 39
abbrev sexchanges : Stmt := top 40
abbrev slines_of : Stmt := top 42
abbrev sline_at : Stmt := top 43
abbrev sline_number : Stmt := top 44
abbrev sgood_at : Stmt := top 45
abbrev sgood_number : Stmt := top 46
abbrev sring_text : Stmt := top 50
abbrev sorder_text : Stmt := top 51
abbrev snumber_in : Stmt := top 52
abbrev snumbers_in : Stmt := top 53
abbrev srings_in : Stmt := top 54
abbrev sread_order : Stmt := top 55
abbrev swith_blanks : Stmt := top 59
abbrev sanswer_by_order : Stmt := top 60
abbrev sanswer_by_numbers : Stmt := top 61
abbrev sanswer_of : Stmt := top 62
abbrev sanswered_row : Stmt := top 63
abbrev sanswered : Stmt := top 64
abbrev s_law_cell_at : Stmt := top 66
abbrev s_law_order : Stmt := top 68
abbrev s_law_all : Stmt := top 70
abbrev s_law_ways : Stmt := top 71
abbrev s_law_words : Stmt := top 72
abbrev s_law_helped : Stmt := top 73
abbrev s_law_need : Stmt := top 74
abbrev s_law_right : Stmt := top 75
abbrev slaw : Stmt := top 76
def dis_each_once : He.DefD := ⟨("is_each_once", none), "is_each_once", "is_each_once", defArgs sis_each_once, defBody sis_each_once, defScope sis_each_once, [], []⟩
def dring_from : He.DefD := ⟨("ring_from", none), "ring_from", "ring_from", defArgs sring_from, defBody sring_from, defScope sring_from, [], []⟩
def drings_of : He.DefD := ⟨("rings_of", none), "rings_of", "rings_of", defArgs srings_of, defBody srings_of, defScope srings_of, [], []⟩
def dorder_by : He.DefD := ⟨("order_by", none), "order_by", "order_by", defArgs sorder_by, defBody sorder_by, defScope sorder_by, [], []⟩
def dexchanged : He.DefD := ⟨("exchanged", none), "exchanged", "exchanged", defArgs sexchanged, defBody sexchanged, defScope sexchanged, [], []⟩
def dlook_at_openings : He.DefD := ⟨("look_at_openings", none), "look_at_openings", "look_at_openings", defArgs slook_at_openings, defBody slook_at_openings, defScope slook_at_openings, [], []⟩
def dmade_openings : He.DefD := ⟨("made_openings", none), "made_openings", "made_openings", defArgs smade_openings, defBody smade_openings, defScope smade_openings, [], []⟩
def dboxes_followed : He.DefD := ⟨("boxes_followed", none), "boxes_followed", "boxes_followed", defArgs sboxes_followed, defBody sboxes_followed, defScope sboxes_followed, [], []⟩
def dfinders : He.DefD := ⟨("finders", none), "finders", "finders", defArgs sfinders, defBody sfinders, defScope sfinders, [], []⟩
def dlook_at_counts : He.DefD := ⟨("look_at_counts", none), "look_at_counts", "look_at_counts", defArgs slook_at_counts, defBody slook_at_counts, defScope slook_at_counts, [], []⟩
def dproduct_of : He.DefD := ⟨("product_of", none), "product_of", "product_of", defArgs sproduct_of, defBody sproduct_of, defScope sproduct_of, [], []⟩
def dby_rings : He.DefD := ⟨("by_rings", none), "by_rings", "by_rings", defArgs sby_rings, defBody sby_rings, defScope sby_rings, [], []⟩
def dmany_good : He.DefD := ⟨("many_good", none), "many_good", "many_good", defArgs smany_good, defBody smany_good, defScope smany_good, [], []⟩
def dsets_row : He.DefD := ⟨("sets_row", none), "sets_row", "sets_row", defArgs ssets_row, defBody ssets_row, defScope ssets_row, [], []⟩
def dwith_one_more : He.DefD := ⟨("with_one_more", none), "with_one_more", "with_one_more", defArgs swith_one_more, defBody swith_one_more, defScope swith_one_more, [], []⟩
def dmany_all : He.DefD := ⟨("many_all", none), "many_all", "many_all", defArgs smany_all, defBody smany_all, defScope smany_all, [], []⟩
def ddivisor_of : He.DefD := ⟨("divisor_of", none), "divisor_of", "divisor_of", defArgs sdivisor_of, defBody sdivisor_of, defScope sdivisor_of, [], []⟩
def dshare : He.DefD := ⟨("share", none), "share", "share", defArgs sshare, defBody sshare, defScope sshare, [], []⟩
def dlook_at_group : He.DefD := ⟨("look_at_group", none), "look_at_group", "look_at_group", defArgs slook_at_group, defBody slook_at_group, defScope slook_at_group, [], []⟩
def dfound_by_just : He.DefD := ⟨("found_by_just", none), "found_by_just", "found_by_just", defArgs sfound_by_just, defBody sfound_by_just, defScope sfound_by_just, [], []⟩
def dmany_all_of : He.DefD := ⟨("many_all_of", none), "many_all_of", "many_all_of", defArgs smany_all_of, defBody smany_all_of, defScope smany_all_of, [], []⟩
def dlook_at_help : He.DefD := ⟨("look_at_help", none), "look_at_help", "look_at_help", defArgs slook_at_help, defBody slook_at_help, defScope slook_at_help, [], []⟩
def dneed : He.DefD := ⟨("need", none), "need", "need", defArgs sneed, defBody sneed, defScope sneed, [], []⟩
def dexchanges : He.DefD := ⟨("exchanges", none), "exchanges", "exchanges", defArgs sexchanges, defBody sexchanges, defScope sexchanges, [], []⟩
def dlines_of : He.DefD := ⟨("lines_of", none), "lines_of", "lines_of", defArgs slines_of, defBody slines_of, defScope slines_of, [], []⟩
def dline_at : He.DefD := ⟨("line_at", none), "line_at", "line_at", defArgs sline_at, defBody sline_at, defScope sline_at, [], []⟩
def dline_number : He.DefD := ⟨("line_number", none), "line_number", "line_number", defArgs sline_number, defBody sline_number, defScope sline_number, [], []⟩
def dgood_at : He.DefD := ⟨("good_at", none), "good_at", "good_at", defArgs sgood_at, defBody sgood_at, defScope sgood_at, [], []⟩
def dgood_number : He.DefD := ⟨("good_number", none), "good_number", "good_number", defArgs sgood_number, defBody sgood_number, defScope sgood_number, [], []⟩
def dring_text : He.DefD := ⟨("ring_text", none), "ring_text", "ring_text", defArgs sring_text, defBody sring_text, defScope sring_text, [], []⟩
def dorder_text : He.DefD := ⟨("order_text", none), "order_text", "order_text", defArgs sorder_text, defBody sorder_text, defScope sorder_text, [], []⟩
def dnumber_in : He.DefD := ⟨("number_in", none), "number_in", "number_in", defArgs snumber_in, defBody snumber_in, defScope snumber_in, [], []⟩
def dnumbers_in : He.DefD := ⟨("numbers_in", none), "numbers_in", "numbers_in", defArgs snumbers_in, defBody snumbers_in, defScope snumbers_in, [], []⟩
def drings_in : He.DefD := ⟨("rings_in", none), "rings_in", "rings_in", defArgs srings_in, defBody srings_in, defScope srings_in, [], []⟩
def dread_order : He.DefD := ⟨("read_order", none), "read_order", "read_order", defArgs sread_order, defBody sread_order, defScope sread_order, [], []⟩
def dwith_blanks : He.DefD := ⟨("with_blanks", none), "with_blanks", "with_blanks", defArgs swith_blanks, defBody swith_blanks, defScope swith_blanks, [], []⟩
def danswer_by_order : He.DefD := ⟨("answer_by_order", none), "answer_by_order", "answer_by_order", defArgs sanswer_by_order, defBody sanswer_by_order, defScope sanswer_by_order, [], []⟩
def danswer_by_numbers : He.DefD := ⟨("answer_by_numbers", none), "answer_by_numbers", "answer_by_numbers", defArgs sanswer_by_numbers, defBody sanswer_by_numbers, defScope sanswer_by_numbers, [], []⟩
def danswer_of : He.DefD := ⟨("answer_of", none), "answer_of", "answer_of", defArgs sanswer_of, defBody sanswer_of, defScope sanswer_of, [], []⟩
def danswered_row : He.DefD := ⟨("answered_row", none), "answered_row", "answered_row", defArgs sanswered_row, defBody sanswered_row, defScope sanswered_row, [], []⟩
def danswered : He.DefD := ⟨("answered", none), "answered", "answered", defArgs sanswered, defBody sanswered, defScope sanswered, [], []⟩
def d_law_cell_at : He.DefD := ⟨("_law_cell_at", none), "_law_cell_at", "_law_cell_at", defArgs s_law_cell_at, defBody s_law_cell_at, defScope s_law_cell_at, [], []⟩
def d_law_order : He.DefD := ⟨("_law_order", none), "_law_order", "_law_order", defArgs s_law_order, defBody s_law_order, defScope s_law_order, [], []⟩
def d_law_all : He.DefD := ⟨("_law_all", none), "_law_all", "_law_all", defArgs s_law_all, defBody s_law_all, defScope s_law_all, [], []⟩
def d_law_ways : He.DefD := ⟨("_law_ways", none), "_law_ways", "_law_ways", defArgs s_law_ways, defBody s_law_ways, defScope s_law_ways, [], []⟩
def d_law_words : He.DefD := ⟨("_law_words", none), "_law_words", "_law_words", defArgs s_law_words, defBody s_law_words, defScope s_law_words, [], []⟩
def d_law_helped : He.DefD := ⟨("_law_helped", none), "_law_helped", "_law_helped", defArgs s_law_helped, defBody s_law_helped, defScope s_law_helped, [], []⟩
def d_law_need : He.DefD := ⟨("_law_need", none), "_law_need", "_law_need", defArgs s_law_need, defBody s_law_need, defScope s_law_need, [], []⟩
def d_law_right : He.DefD := ⟨("_law_right", none), "_law_right", "_law_right", defArgs s_law_right, defBody s_law_right, defScope s_law_right, [], []⟩
def dlaw : He.DefD := ⟨("law", none), "law", "law", defArgs slaw, defBody slaw, defScope slaw, [], []⟩
def fn : List He.DefD := [dis_each_once, dring_from, drings_of, dorder_by, dexchanged, dlook_at_openings, dmade_openings, dboxes_followed, dfinders, dlook_at_counts, dproduct_of, dby_rings, dmany_good, dsets_row, dwith_one_more, dmany_all, ddivisor_of, dshare, dlook_at_group, dfound_by_just, dmany_all_of, dlook_at_help, dneed, dexchanges, dlines_of, dline_at, dline_number, dgood_at, dgood_number, dring_text, dorder_text, dnumber_in, dnumbers_in, drings_in, dread_order, dwith_blanks, danswer_by_order, danswer_by_numbers, danswer_of, danswered_row, danswered, d_law_cell_at, d_law_order, d_law_all, d_law_ways, d_law_words, d_law_helped, d_law_need, d_law_right, dlaw]
def fa : List He.Fa := ([.glo "is_each_once", .glo "ring_from", .glo "rings_of", .glo "order_by", .glo "exchanged", .glo "look_at_openings", .glo "made_openings", .glo "boxes_followed", .glo "finders", .glo "look_at_counts", .glo "product_of", .glo "by_rings", .glo "many_good", .glo "sets_row", .glo "with_one_more", .glo "many_all", .glo "divisor_of", .glo "share", .glo "look_at_group", .glo "found_by_just", .glo "many_all_of", .glo "look_at_help", .glo "need", .glo "exchanges", .glo "lines_of", .glo "line_at", .glo "line_number", .glo "good_at", .glo "good_number", .glo "ring_text"] : List He.Fa) ++ ([.glo "order_text", .glo "number_in", .glo "numbers_in", .glo "rings_in", .glo "read_order", .glo "with_blanks", .glo "answer_by_order", .glo "answer_by_numbers", .glo "answer_of", .glo "answered_row", .glo "answered", .glo "_law_cell_at", .glo "_law_order", .glo "_law_all", .glo "_law_ways", .glo "_law_words", .glo "_law_helped", .glo "_law_need", .glo "_law_right", .glo "law", .free "len", .free "range", .free "sorted", .free "list", .free "tuple", .free "min", .free "max", .free "enumerate", .free "sum", .free "str"] : List He.Fa) ++ ([.free "int", .int "MOST_BOXES" 60, .int "MOST_PEOPLE_counting" 60, .str "FIGURES" "0123456789", .int "MOST_FIGURES" 90, .int "MOST_PEOPLE_sheet" 60, .str "REFUSED" "refused", .glo "BadOrder", .glo "BoxError"] : List He.Fa)
def loose : List Str := (["__name__", "BoxError", "BadOrder", "BadBox", "BadOpenings", "TooMany", "NoNumber", "NoHelp", "BadGroup", "BadText", "MOST_BOXES", "is_each_once", "ring_from", "rings_of", "order_by", "exchanged", "look_at_openings", "made_openings", "boxes_followed", "finders", "MOST_PEOPLE_counting", "look_at_counts", "product_of", "by_rings", "many_good", "sets_row", "with_one_more", "many_all", "divisor_of", "share"] : List Str) ++ (["look_at_group", "found_by_just", "many_all_of", "look_at_help", "need", "exchanges", "lines_of", "line_at", "line_number", "good_at", "good_number", "FIGURES", "MOST_FIGURES", "ring_text", "order_text", "number_in", "numbers_in", "rings_in", "read_order", "MOST_PEOPLE_sheet", "REFUSED", "with_blanks", "answer_by_order", "answer_by_numbers", "answer_of", "answered_row", "answered", "_law_cell_at", "_law_whole", "_law_order"] : List Str) ++ (["_law_many", "_law_all", "_law_ways", "_law_words", "_law_helped", "_law_need", "_law_right"] : List Str)
abbrev R : PySem.W.OpenRow := PySem.W.OpenLaw.row PySem.Challenge.rw_ownboxes_k64_whole_from_text_to_answers
abbrev hk : PySem.W.Hook := He.hookD 4 fa fn
def ob (s : PySem.W.SharedT) : He.AlD := He.obsDG 4 fa fn (HandSHeadRun.getT s)
theorem ob_eq (s : PySem.W.SharedT) : ob s = hk.obs s.abs := He.obsDG_eq (HandSHeadRun.getT_eq s)
theorem run (w : World) : HandSHeadRun.RunEq R (PySem.W.view R.prog [76]) hk ob 4000 loose w := by
  intro os
  kernel_rfl
end Obh
set_option maxHeartbeats 4000000
set_option Elab.async false
set_option linter.all false
set_option maxRecDepth 100000
set_option maxHeartbeats 4000000
set_option exponentiation.threshold 2000
namespace Obw
open PySem PySem.Spec PyProof.Rows L2 Obr
/-! ### what stands where: lists of tuples -/
structure RT (H : Hp) (as : List Addr) (rs : List (List Nat)) : Prop where
  len : as.length = rs.length
  at_ : ∀ (i : Nat) (a : Addr) (r : List Nat), as[i]? = some a → rs[i]? = some r → H a = some (.tup (nis r))
structure RQ (H : Hp) (as : List Addr) (rs : List (List Nat)) : Prop where
  len : as.length = rs.length
  at_ : ∀ (i : Nat) (a : Addr) (r : List Nat), as[i]? = some a → rs[i]? = some r → H a = some (.lst (nis r)) ∨ H a = some (.tup (nis r))
abbrev refs (as : List Addr) : List V := as.map V.ref
def Rings (H : Hp) (p : Addr) (rs : List (List Nat)) : Prop := ∃ as : List Addr, H p = some (.lst (refs as)) ∧ RT H as rs
def RingsQ (H : Hp) (p : Addr) (rs : List (List Nat)) : Prop := ∃ as : List Addr, H p = some (.lst (refs as)) ∧ RQ H as rs
theorem RT.q {H : Hp} {as : List Addr} {rs : List (List Nat)} (h : RT H as rs) : RQ H as rs := ⟨h.len, fun i a r h1 h2 => .inr (h.at_ i a r h1 h2)⟩
theorem Rings.q {H : Hp} {p : Addr} {rs : List (List Nat)} (h : Rings H p rs) : RingsQ H p rs := let ⟨as, h1, h2⟩ := h; ⟨as, h1, h2.q⟩
theorem RT.same {H H' : Hp} {as : List Addr} {rs : List (List Nat)} (s : Same H H') (h : RT H as rs) : RT H' as rs := ⟨h.len, fun i a r h1 h2 => s _ _ (h.at_ i a r h1 h2)⟩
theorem RQ.same {H H' : Hp} {as : List Addr} {rs : List (List Nat)} (s : Same H H') (h : RQ H as rs) : RQ H' as rs := ⟨h.len, fun i a r h1 h2 => (h.at_ i a r h1 h2).imp (s _ _) (s _ _)⟩
theorem RT.nil {H : Hp} : RT H [] [] := ⟨rfl, fun i a r h _ => by simp at h⟩
theorem RQ.nil {H : Hp} : RQ H [] [] := ⟨rfl, fun i a r h _ => by simp at h⟩
theorem snoc_get {α β : Type} {as : List α} {rs : List β} {a c : α} {r d : β} {i : Nat} (hl : as.length = rs.length) (h1 : (as ++ [a])[i]? = some c) (h2 : (rs ++ [r])[i]? = some d) : (as[i]? = some c ∧ rs[i]? = some d) ∨ (c = a ∧ d = r) := by
  by_cases hi : i < as.length
  · rw [List.getElem?_append_left hi] at h1
    rw [List.getElem?_append_left (hl ▸ hi)] at h2
    exact .inl ⟨h1, h2⟩
  · rw [List.getElem?_append_right (by omega)] at h1
    rw [List.getElem?_append_right (by omega)] at h2
    rw [hl] at h1
    cases e : i - rs.length with
    | zero =>
      rw [e] at h1 h2
      exact .inr ⟨(Option.some.inj h1).symm, (Option.some.inj h2).symm⟩
    | succ n =>
      rw [e] at h1
      simp at h1
theorem RT.snoc {H : Hp} {as : List Addr} {rs : List (List Nat)} {a : Addr} {r : List Nat} (h : RT H as rs) (ha : H a = some (.tup (nis r))) : RT H (as ++ [a]) (rs ++ [r]) := by
  refine ⟨by rw [List.length_append, List.length_append, h.len]; rfl, fun i c d h1 h2 => ?_⟩
  rcases snoc_get h.len h1 h2 with ⟨e1, e2⟩ | ⟨rfl, rfl⟩
  · exact h.at_ i c d e1 e2
  · exact ha
theorem RQ.snoc {H : Hp} {as : List Addr} {rs : List (List Nat)} {a : Addr} {r : List Nat} (h : RQ H as rs) (ha : H a = some (.lst (nis r)) ∨ H a = some (.tup (nis r))) : RQ H (as ++ [a]) (rs ++ [r]) := by
  refine ⟨by rw [List.length_append, List.length_append, h.len]; rfl, fun i c d h1 h2 => ?_⟩
  rcases snoc_get h.len h1 h2 with ⟨e1, e2⟩ | ⟨rfl, rfl⟩
  · exact h.at_ i c d e1 e2
  · exact ha
/-- a list changes that is none of them -/
theorem RT.but {H H' : Hp} {as : List Addr} {rs : List (List Nat)} {l : Addr} {xs : List V} (h : RT H as rs) (hl : H l = some (.lst xs)) (b : ∀ b, b ≠ l → H' b = H b) : RT H' as rs := ⟨h.len, fun i a r h1 h2 => by
  have e := h.at_ i a r h1 h2
  rw [b a (fun z => by subst z; rw [hl] at e; cases e)]
  exact e⟩
/-! ### mirrors of the followers -/
/-- the boxes that are opened from b on with m openings left: the first one, or one behind a box of another name -/
def followGo (o : List Nat) (p : Nat) : Nat → Nat → List Nat
  | 0, _ => []
  | m + 1, b => if Obx.nx o b = p then [b] else b :: followGo o p m (Obx.nx o b)
def follow (o : List Nat) (m p : Nat) : List Nat := followGo o p m p
def findB1 (o ops : List Nat) (p : Nat) : Bool := decide (p ∈ (follow o (ops.getD p 0) p).map (Obx.nx o))
def findersM (o ops : List Nat) : List Nat := (List.range o.length).filter (findB1 o ops)
def sortN (l : List Nat) : List Nat := l.mergeSort fun a b => decide (a ≤ b)
abbrev mal (ops : List Nat) : Nat := Obx.manyAll (sortN ops)
abbrev gcdF (ops : List Nat) : Nat := Nat.gcd (Obx.fact ops.length) (mal ops)
/-- pairs of exchanges as they stand -/
def pl (ps : List (Nat × Nat)) : List (List Nat) := ps.map fun p => [p.1, p.2]
/-! ### the promises -/
def sp_is_each_once : Sp := fun vs H Q _ => ∃ (a : Addr) (l : List Nat), vs = [.ref a] ∧ H a = some (.lst (nis l)) ∧ l.Perm (List.range l.length) ∧ 1 ≤ l.length ∧ l.length ≤ 60 ∧ ∀ H', Same H H' → Q (.bl true) H'
def sp_ring_from : Sp := fun vs H Q _ => ∃ (a : Addr) (o : List Nat) (b : Nat), vs = [.ref a, ni b] ∧ H a = some (.tup (nis o)) ∧ Obx.IsOrd o ∧ b < o.length ∧ o.length ≤ 60 ∧
  ∀ p H', H p = none → Same H H' → H' p = some (.tup (nis (Obx.ring o b))) → Q (.ref p) H'
def sp_rings_of : Sp := fun vs H Q _ => ∃ (a : Addr) (o : List Nat), vs = [.ref a] ∧ H a = some (.tup (nis o)) ∧ Obx.IsOrd o ∧ o.length ≤ 60 ∧
  ∀ p H', H p = none → Same H H' → Rings H' p (Obx.rings o) → Q (.ref p) H'
def sp_order_by : Sp := fun vs H Q _ => ∃ (a : Addr) (n : Nat) (rs : List (List Nat)), vs = [.ref a] ∧ RingsQ H a rs ∧ Obx.Cover n rs ∧ 1 ≤ n ∧ n ≤ 60 ∧
  ∀ p H', H p = none → Same H H' → H' p = some (.tup (nis (Obx.orderBy rs))) → Q (.ref p) H'
def sp_exchanged : Sp := fun vs H Q _ => ∃ (a : Addr) (o : List Nat) (u v : Nat), vs = [.ref a, ni u, ni v] ∧ H a = some (.tup (nis o)) ∧ u ≠ v ∧ u < o.length ∧ v < o.length ∧ o.length ≤ 60 ∧
  ∀ p H', H p = none → Same H H' → H' p = some (.tup (nis (Obx.swap o u v))) → Q (.ref p) H'
def sp_look_at_openings : Sp := fun vs H Q _ => ∃ (n : Nat) (a : Addr) (ops : List Nat), vs = [ni n, .ref a] ∧ H a = some (.tup (nis ops)) ∧ ops.length = n ∧ 1 ≤ n ∧ n ≤ 60 ∧ (∀ x ∈ ops, x ≤ n) ∧ ∀ H', Same H H' → Q .non H'
def sp_made_openings : Sp := fun vs H Q _ => ∃ (n : Nat) (a : Addr) (ops : List Nat), vs = [ni n, .ref a] ∧ H a = some (.tup (nis ops)) ∧ ops.length = n ∧ 1 ≤ n ∧ n ≤ 60 ∧ (∀ x ∈ ops, x ≤ n) ∧ ∀ H', Same H H' → Q (.ref a) H'
def sp_boxes_followed : Sp := fun vs H Q _ => ∃ (a : Addr) (m p : Nat) (o : List Nat), vs = [.ref a, ni m, ni p] ∧ H a = some (.tup (nis o)) ∧ Obx.IsOrd o ∧ p < o.length ∧ o.length ≤ 60 ∧ m ≤ 60 ∧
  ∀ q H', H q = none → Same H H' → H' q = some (.lst (nis (follow o m p))) → Q (.ref q) H'
def sp_finders : Sp := fun vs H Q _ => ∃ (a b : Addr) (o ops : List Nat), vs = [.ref a, .ref b] ∧ H a = some (.tup (nis o)) ∧ H b = some (.tup (nis ops)) ∧ Obx.IsOrd o ∧ ops.length = o.length ∧ 1 ≤ o.length ∧ o.length ≤ 60 ∧ (∀ x ∈ ops, x ≤ o.length) ∧
  ∀ q H', H q = none → Same H H' → H' q = some (.tup (nis (findersM o ops))) → Q (.ref q) H'
def sp_look_at_counts : Sp := fun vs H Q _ => ∃ (n k : Nat), vs = [ni n, ni k] ∧ n ≤ 60 ∧ ∀ H', Same H H' → Q .non H'
def sp_product_of : Sp := fun vs H Q _ => ∃ (n : Nat), vs = [ni n] ∧ n ≤ 40 ∧ ∀ H', Same H H' → Q (ni (Obx.fact n)) H'
def sp_by_rings : Sp := fun vs H Q _ => ∃ (n lo hi : Nat), vs = [ni n, ni lo, ni hi] ∧ n ≤ 40 ∧ ∀ p H', H p = none → Same H H' → H' p = some (.lst (nis (Obx.gl lo hi n))) → Q (.ref p) H'
def sp_many_good : Sp := fun vs H Q _ => ∃ (n k : Nat), vs = [ni n, ni k] ∧ n ≤ 40 ∧ ∀ H', Same H H' → Q (ni (Obx.G k n)) H'
def sp_sets_row : Sp := fun vs H Q _ => ∃ (n : Nat), vs = [ni n] ∧ n = 0 ∧ ∀ p H', H p = none → Same H H' → H' p = some (.lst [ni 1]) → Q (.ref p) H'
def sp_with_one_more : Sp := fun vs H Q _ => ∃ (a : Addr) (left most : Nat) (begun : List Nat), vs = [.ref a, ni left, ni most] ∧ H a = some (.lst (nis begun)) ∧ left ≤ 39 ∧ begun.length ≤ left + 2 ∧ most ≤ 60 ∧ (∀ x ∈ begun, x < 2 ^ 500) ∧
  ∀ p H', H p = none → Same H H' → H' p = some (.lst (nis (Obx.oneMore begun left most))) → Q (.ref p) H'
def sp_many_all : Sp := fun vs H Q _ => ∃ (a : Addr) (ops : List Nat), vs = [.ref a] ∧ H a = some (.tup (nis ops)) ∧ 1 ≤ ops.length ∧ ops.length ≤ 40 ∧ (∀ x ∈ ops, x ≤ ops.length) ∧ ∀ H', Same H H' → Q (ni (mal ops)) H'
def sp_divisor_of : Sp := fun vs H Q _ => ∃ (a b : Nat), vs = [ni a, ni b] ∧ ∀ H', Same H H' → Q (ni (Nat.gcd a b)) H'
def sp_share : Sp := fun vs H Q _ => ∃ (a : Addr) (ops : List Nat), vs = [.ref a] ∧ H a = some (.tup (nis ops)) ∧ 1 ≤ ops.length ∧ ops.length ≤ 40 ∧ (∀ x ∈ ops, x ≤ ops.length) ∧
  ∀ p H', H p = none → Same H H' → H' p = some (.tup [ni (mal ops / gcdF ops), ni (Obx.fact ops.length / gcdF ops)]) → Q (.ref p) H'
def sp_look_at_group : Sp := fun vs H Q _ => ∃ (n : Nat) (a : Addr), vs = [ni n, .ref a] ∧ H a = some (.tup (nis (List.range n))) ∧ ∀ H', Same H H' → Q .non H'
def sp_found_by_just : Sp := fun vs H Q _ => ∃ (n k : Nat), vs = [ni n, ni k] ∧ n ≤ 40 ∧ ∀ p H', H p = none → Same H H' → H' p = some (.lst (nis ((List.range (n + 1)).map fun s => Obx.gg 1 k s * Obx.gg (k + 1) n (n - s)))) → Q (.ref p) H'
def sp_many_all_of : Sp := fun vs H Q _ => ∃ (n k : Nat) (a : Addr), vs = [ni n, ni k, .ref a] ∧ n ≤ 40 ∧ H a = some (.tup (nis (List.range n))) ∧ ∀ H', Same H H' → Q (ni (Obx.G k n)) H'
def sp_look_at_help : Sp := fun vs H Q _ => ∃ (a : Addr) (k : Nat) (o : List Nat), vs = [.ref a, ni k] ∧ H a = some (.tup (nis o)) ∧ 1 ≤ k ∧ k ≤ o.length ∧ ∀ H', Same H H' → Q .non H'
def sp_need : Sp := fun vs H Q _ => ∃ (a : Addr) (k : Nat) (o : List Nat), vs = [.ref a, ni k] ∧ H a = some (.tup (nis o)) ∧ Obx.IsOrd o ∧ o.length ≤ 60 ∧ 1 ≤ k ∧ k ≤ o.length ∧ ∀ H', Same H H' → Q (ni (Obx.need k (Obx.rings o))) H'
def sp__law_need : Sp := sp_need
def sp_exchanges : Sp := fun vs H Q _ => ∃ (a : Addr) (k : Nat) (o : List Nat), vs = [.ref a, ni k] ∧ H a = some (.tup (nis o)) ∧ Obx.IsOrd o ∧ o.length ≤ 60 ∧ 1 ≤ k ∧ k ≤ o.length ∧
  ∀ p H', H p = none → Same H H' → Rings H' p (pl (Obx.exch k (Obx.rings o))) → Q (.ref p) H'
def sp_lines_of : Sp := fun vs H Q _ => ∃ (m s : Nat), vs = [ni m, ni s] ∧ s ≤ m ∧ m ≤ 40 ∧ ∀ H', Same H H' → Q (ni (Obx.dfac m s)) H'
def sp_line_at : Sp := fun vs H Q _ => ∃ (a : Addr) (s num : Nat) (left : List Nat), vs = [.ref a, ni s, ni num] ∧ H a = some (.lst (nis left)) ∧ s ≤ left.length ∧ left.length ≤ 40 ∧ num < Obx.dfac left.length s ∧
  ∀ p H', H p = none → Same H H' → H' p = some (.lst (nis (Obx.lineAt left s num))) → Q (.ref p) H'
def sp_line_number : Sp := fun vs H Q _ => ∃ (a b : Addr) (left line : List Nat), vs = [.ref a, .ref b] ∧ H a = some (.lst (nis left)) ∧ H b = some (.tup (nis line)) ∧ line.Nodup ∧ (∀ x ∈ line, x ∈ left) ∧ left.length ≤ 40 ∧
  ∀ H', Same H H' → Q (ni (Obx.lineNo left line)) H'
def sp_good_at : Sp := fun vs H Q _ => ∃ (n k num : Nat), vs = [ni n, ni k, ni num] ∧ 1 ≤ n ∧ n ≤ 40 ∧ 1 ≤ k ∧ num < Obx.G k n ∧
  ∀ p H', H p = none → Same H H' → H' p = some (.tup (nis (Obx.orderBy (Obx.goodRings k n (List.range n) num)))) → Q (.ref p) H'
def sp_good_number : Sp := fun vs H Q _ => ∃ (a : Addr) (k : Nat) (o : List Nat), vs = [.ref a, ni k] ∧ H a = some (.tup (nis o)) ∧ Obx.IsOrd o ∧ 1 ≤ o.length ∧ o.length ≤ 40 ∧ (∀ r ∈ Obx.rings o, r.length ≤ k) ∧ Obx.Canon (List.range o.length) (Obx.rings o) ∧
  ∀ H', Same H H' → Q (ni (Obx.goodNo k (Obx.rings o) (List.range o.length))) H'
/-! ### data that is compared -/
abbrev dI (l : List Nat) : List PyData := l.map fun (n : Nat) => PyData.int (n : Int)
theorem dpAll_nis {K : PySem.W.Frag} {H : Hp} : ∀ l : List Nat, DpAll K H (nis l) (dI l)
  | [] => .nil
  | n :: l => .cons (.int _) (dpAll_nis l)
theorem lay_dI : ∀ l : List Nat, PyData.canLayAll0 (dI l) = true
  | [] => by simp [PyData.canLayAll0]
  | n :: l => by
    show PyData.canLayAll0 (.int n :: dI l) = true
    rw [PyData.canLayAll0, lay_dI l]
    simp [PyData.canLay0]
theorem depth_dI : ∀ l : List Nat, PyData.depthAll (dI l) ≤ 1
  | [] => by simp [PyData.depthAll]
  | n :: l => by
    have ih := depth_dI l
    show PyData.depthAll (.int n :: dI l) ≤ 1
    rw [PyData.depthAll]
    have : PyData.depth (.int (n : Int)) ≤ 1 := by simp [PyData.depth]
    omega
theorem shaped_l (l : List Nat) : SeqAt.shaped (.list (dI l)) = true := by
  have h1 := lay_dI l
  have h2 := depth_dI l
  unfold SeqAt.shaped
  rw [PyData.canLay0, h1, PyData.depth, Bool.true_and]
  exact decide_eq_true (by omega)
theorem shaped_t (l : List Nat) : SeqAt.shaped (.tuple (dI l)) = true := by
  have h1 := lay_dI l
  have h2 := depth_dI l
  unfold SeqAt.shaped
  rw [PyData.canLay0, h1, PyData.depth, Bool.true_and]
  exact decide_eq_true (by omega)
theorem eqvAll_dI : ∀ l m : List Nat, PyData.eqvAll (dI l) (dI m) = decide (l = m)
  | [], [] => by simp [PyData.eqvAll]
  | [], _ :: _ => by simp [PyData.eqvAll]
  | _ :: _, [] => by simp [PyData.eqvAll]
  | a :: l, b :: m => by
    show PyData.eqvAll (.int a :: dI l) (.int b :: dI m) = _
    rw [PyData.eqvAll, eqvAll_dI l m, PyData.eqv]
    by_cases h1 : a = b
    · subst h1; simp
    · have : ¬ ((a : Int) = (b : Int)) := by omega
      simp [h1, this]
section
variable {K : PySem.W.Frag} {H : Hp} {Q : VK} {a b : Addr} {l m : List Nat}
theorem r_eqLL (h1 : H a = some (.lst (nis l))) (h2 : H b = some (.lst (nis m))) (q : Q (.bl (decide (l = m))) H) : rEqD K (.ref a) (.ref b) H Q :=
  ⟨.list (dI l), .list (dI m), .lst (SqL.of h1) (dpAll_nis l), .lst (SqL.of h2) (dpAll_nis m), shaped_l l, shaped_l m, by rw [PyData.eqv, eqvAll_dI]; exact q⟩
theorem r_neLL (h1 : H a = some (.lst (nis l))) (h2 : H b = some (.lst (nis m))) (q : Q (.bl (!decide (l = m))) H) : rNeD K (.ref a) (.ref b) H Q :=
  ⟨.list (dI l), .list (dI m), .lst (SqL.of h1) (dpAll_nis l), .lst (SqL.of h2) (dpAll_nis m), shaped_l l, shaped_l m, by rw [PyData.eqv, eqvAll_dI]; exact q⟩
theorem r_eqTT (h1 : H a = some (.tup (nis l))) (h2 : H b = some (.tup (nis m))) (q : Q (.bl (decide (l = m))) H) : rEqD K (.ref a) (.ref b) H Q :=
  ⟨.tuple (dI l), .tuple (dI m), .tup (SqT.of h1) (dpAll_nis l), .tup (SqT.of h2) (dpAll_nis m), shaped_t l, shaped_t m, by rw [PyData.eqv, eqvAll_dI]; exact q⟩
/-! ### sorted -/
theorem zs_sorted {l : List Nat} (h : l.Pairwise (· ≤ ·)) : (zs l).Pairwise (· ≤ ·) := by
  rw [List.pairwise_map]
  exact h.imp fun h => by omega
theorem sortN_perm (l : List Nat) : (sortN l).Perm l := List.mergeSort_perm _ _
theorem sortN_sorted (l : List Nat) : (sortN l).Pairwise (· ≤ ·) := by
  have := List.pairwise_mergeSort (le := fun a b : Nat => decide (a ≤ b)) (fun a b c h1 h2 => by simp at *; omega) (fun a b => by simp; omega) l
  exact this.imp fun h => by simpa using h
theorem zs_unique {l m : List Nat} {ns : List Int} (hp : ns.Perm (zs l)) (hs : ns.Pairwise (· ≤ ·)) (hm : m.Pairwise (· ≤ ·)) (hlm : m.Perm l) : ns = zs m :=
  List.Perm.eq_of_pairwise (fun a b _ _ h1 h2 => Int.le_antisymm h1 h2) hs (zs_sorted hm) (hp.trans (hlm.symm.map _))
theorem sortN_alike (n k : Nat) : sortN (List.replicate n k) = List.replicate n k := by
  exact List.perm_replicate.mp (sortN_perm (List.replicate n k))
theorem r_sortL (h : H a = some (.lst (nis l))) (hm : m.Pairwise (· ≤ ·)) (hlm : m.Perm l) (q : ∀ p H', H p = none → Same H H' → H' p = some (.lst (nis m)) → Q (.ref p) H') : rSortedI K [.ref a] H Q :=
  ⟨a, zs l, rfl, by rw [← nis_eq]; exact SqL.of h, fun ns p h1 h2 hp => by
    rw [zs_unique h1 h2 hm hlm, ← nis_eq]
    exact q p _ hp (Same.new hp) upd_same⟩
theorem r_sortT (h : H a = some (.tup (nis l))) (hm : m.Pairwise (· ≤ ·)) (hlm : m.Perm l) (q : ∀ p H', H p = none → Same H H' → H' p = some (.lst (nis m)) → Q (.ref p) H') : rSortedT K [.ref a] H Q :=
  ⟨a, zs l, rfl, by rw [← nis_eq]; exact SqT.of h, fun ns p h1 h2 hp => by
    rw [zs_unique h1 h2 hm hlm, ← nis_eq]
    exact q p _ hp (Same.new hp) upd_same⟩
theorem range_sorted (n : Nat) : (List.range n).Pairwise (· ≤ ·) := by
  have := List.pairwise_lt_range (n := n)
  exact this.imp fun h => Nat.le_of_lt h
end
theorem ifDT {c : Prop} [Decidable c] {A B : Prop} (hc : c) (h : A) : if decide c = true then A else B := by rw [if_pos (decide_eq_true hc)]; exact h
theorem ifDF {c : Prop} [Decidable c] {A B : Prop} (hc : ¬ c) (h : B) : if decide c = true then A else B := by rw [if_neg (fun z => hc (of_decide_eq_true z))]; exact h
theorem ifNT {c : Prop} [Decidable c] {A B : Prop} (hc : ¬ c) (h : A) : if (!decide c) = true then A else B := by rw [decide_eq_false hc]; exact h
theorem ifNF {c : Prop} [Decidable c] {A B : Prop} (hc : c) (h : B) : if (!decide c) = true then A else B := by rw [decide_eq_true hc]; exact h
section
variable {D : Ends} {σ : List (Option V)} {H : Hp} {Q : VK} {ta tb tc : TE}
theorem r_andV (h : ta σ H fun x H1 => ∃ c, x = .bl c ∧ if c = true then tb σ H1 Q else Q (.bl false) H1) : tAndV ta tb σ H Q := h
theorem r_orV (h : ta σ H fun x H1 => ∃ c, x = .bl c ∧ if c = true then Q (.bl true) H1 else tb σ H1 Q) : tOrV ta tb σ H Q := h
theorem r_chain {r r' : R2} (h : ta σ H fun x H1 => tb σ H1 fun y H2 => r x y H2 fun z H3 => ∃ k, z = .bl k ∧ (if k = true then tc σ H3 fun w' H4 => r' y w' H4 Q else Q (.bl false) H3)) : tChain r r' ta tb tc σ H Q := h
end
theorem mem_take_succ {l : List Nat} {j b : Nat} (h : j < l.length) : b ∈ l.take (j + 1) ↔ b ∈ l.take j ∨ b = l[j] := by
  have e : l.take (j + 1) = l.take j ++ [l[j]] := by
    rw [List.take_add_one, List.getElem?_eq_getElem h]
    rfl
  rw [e, List.mem_append, List.mem_singleton]
theorem take_succ {α : Type} {l : List α} {j : Nat} (h : j < l.length) : l.take (j + 1) = l.take j ++ [l[j]] := by
  rw [List.take_add_one, List.getElem?_eq_getElem h]
  rfl
theorem flat_rep (x : V) : ∀ n : Nat, (List.replicate n [x]).flatten = List.replicate n x
  | 0 => rfl
  | n + 1 => by rw [List.replicate_succ, List.flatten_cons, flat_rep x n]; rfl
theorem r_rep1 {H : Hp} {Q : VK} {z : Addr} {x n : Nat} (h : H z = some (.lst [ni x])) (hn : n ≤ 1000) (q : ∀ p H', H p = none → Same H H' → H' p = some (.lst (nis (List.replicate n x))) → Q (.ref p) H') : rRep (.ref z) (ni n) H Q :=
  ⟨z, n, [ni x], rfl, rfl, h, by omega, by omega, small (by rw [Int.toNat_natCast]; simp; omega), fun p hp => q p _ hp (Same.new hp) (by
    rw [upd_same, Int.toNat_natCast, flat_rep]
    show _ = some (HO.lst ((List.replicate n x).map ni))
    rw [List.map_replicate])⟩
theorem r_ixQ {K : PySem.W.Frag} {H : Hp} {Q : VK} {p : Addr} {xs : List V} {k : Int} {v : V} (h : H p = some (.lst xs) ∨ H p = some (.tup xs)) (hv : atI xs k = some v) (q : Q v H) : rIx K (.ref p) (.int k) H Q := by
  rcases h with h | h
  · exact .inl (r_ixL h hv q)
  · exact .inr (.inl (r_ixT h hv q))
theorem flat_take {rs : List (List Nat)} {i : Nat} (h : i < rs.length) : (rs.take i).flatten.length + rs[i].length ≤ rs.flatten.length := by
  have e : rs.take i ++ rs[i] :: rs.drop (i + 1) = rs := by
    rw [← List.drop_eq_getElem_cons h, List.take_append_drop]
  have e2 : rs.flatten.length = (rs.take i ++ rs[i] :: rs.drop (i + 1)).flatten.length := by rw [e]
  rw [e2, List.flatten_append, List.flatten_cons, List.length_append, List.length_append]
  omega
theorem pairs_at {r : List Nat} {j : Nat} (h : j < r.length) : ∃ u, (Obx.pairs r)[j]? = some (u, r[j]) ∧ atI (nis r) ((j : Int) - 1) = some (ni u) ∧ u ∈ r := by
  have hne : r ≠ [] := fun z => by subst z; simp at h
  cases j with
  | zero =>
    refine ⟨r.getLast hne, ?_, ?_, List.getLast_mem hne⟩
    · cases r with
      | nil => exact absurd rfl hne
      | cons x l =>
        show some ((x :: l).getLastD 0, x) = _
        rw [Obx.getLastD_cons_eq]
        rfl
    · have e : r = r.dropLast ++ [r.getLast hne] := (List.dropLast_concat_getLast hne).symm
      have e2 : nis r = nis r.dropLast ++ [ni (r.getLast hne)] := by
        have := nis_app r.dropLast [r.getLast hne]
        rw [← e] at this
        exact this
      rw [e2]
      exact atI_last _ _
  | succ j =>
    have hj : j < r.length := by omega
    refine ⟨r[j], ?_, ?_, List.getElem_mem hj⟩
    · unfold Obx.pairs
      rw [List.getElem?_zip_eq_some]
      refine ⟨?_, List.getElem?_eq_getElem h⟩
      rw [List.getElem?_cons_succ, List.getElem?_dropLast, if_pos (by omega), List.getElem?_eq_getElem hj]
    · have e : (((j + 1 : Nat) : Int) - 1) = (j : Int) := by omega
      rw [e]
      exact at_n (nis_get hj)
theorem pairs_length (r : List Nat) : (Obx.pairs r).length = r.length := by
  have := congrArg List.length (Obx.pairs_snd r)
  rw [List.length_map] at this
  exact this
section
/-! ### texts -/
open SX (S)
theorem lit {s : String} {l : List Nat} (h : s.toList.map Char.toNat = l) : Str.ofString s = S l := TL.ext_tl (by rw [TL.tl_ofString, h])
def inner (r : List Nat) : List Nat := TL.joinL [32] (r.map TL.numL)
def ringL (r : List Nat) : List Nat := 40 :: (inner r ++ [41])
def ordL (rs : List (List Nat)) : List Nat := (rs.map ringL).flatten
theorem joinL_nil : ∀ l : List (List Nat), TL.joinL [] l = l.flatten
  | [] => rfl
  | [p] => by simp [TL.joinL]
  | p :: q :: r => by
    show p ++ ([] ++ TL.joinL [] (q :: r)) = _
    rw [joinL_nil (q :: r), List.nil_append]
    rfl
theorem joinL_cons (S p : List Nat) {l : List (List Nat)} (h : l ≠ []) : TL.joinL S (p :: l) = p ++ (S ++ TL.joinL S l) := by
  obtain ⟨q, r, rfl⟩ := List.exists_cons_of_ne_nil h
  rfl
theorem joinL_len (S : List Nat) (B : Nat) : ∀ l : List (List Nat), (∀ p ∈ l, p.length ≤ B) → (TL.joinL S l).length ≤ l.length * (B + S.length)
  | [], _ => Nat.zero_le _
  | [p], h => by
    have := h p (by simp)
    show p.length ≤ 1 * _
    omega
  | p :: q :: r, h => by
    have ih := joinL_len S B (q :: r) fun x hx => h x (List.mem_cons_of_mem _ hx)
    have := h p (by simp)
    show (p ++ (S ++ TL.joinL S (q :: r))).length ≤ _
    rw [List.length_append, List.length_append, List.length_cons (a := p), Nat.succ_mul]
    omega
theorem joinL_mem {S : List Nat} {c : Nat} : ∀ {l : List (List Nat)}, c ∈ TL.joinL S l → c ∈ S ∨ ∃ p ∈ l, c ∈ p
  | [], h => by simp [TL.joinL] at h
  | [p], h => .inr ⟨p, by simp, h⟩
  | p :: q :: r, h => by
    have h' : c ∈ p ++ (S ++ TL.joinL S (q :: r)) := h
    rw [List.mem_append, List.mem_append] at h'
    rcases h' with h | h | h
    · exact .inr ⟨p, by simp, h⟩
    · exact .inl h
    · rcases joinL_mem h with h | ⟨x, hx, hc⟩
      · exact .inl h
      · exact .inr ⟨x, List.mem_cons_of_mem _ hx, hc⟩
theorem numL4 {n : Nat} (h : n ≤ 1000) : (TL.numL n).length ≤ 4 := TL.numL_len (by decide) (by omega)
theorem numL50 {n : Nat} (h : n < 10 ^ 50) : (TL.numL n).length ≤ 50 := TL.numL_len (by decide) h
theorem inner_len {r : List Nat} (h : ∀ x ∈ r, x ≤ 1000) : (inner r).length ≤ r.length * 5 := by
  have := joinL_len [32] 4 (r.map TL.numL) (fun p hp => by
    obtain ⟨x, hx, rfl⟩ := List.mem_map.mp hp
    exact numL4 (h x hx))
  rw [List.length_map] at this
  exact this
theorem ringL_len (r : List Nat) : (ringL r).length = (inner r).length + 2 := by simp [ringL]
theorem ordL_len : ∀ {rs : List (List Nat)}, (∀ r ∈ rs, ∀ x ∈ r, x ≤ 1000) → (ordL rs).length ≤ 5 * rs.flatten.length + 2 * rs.length
  | [], _ => Nat.zero_le _
  | r :: rs, h => by
    have ih := ordL_len (rs := rs) fun q hq => h q (List.mem_cons_of_mem _ hq)
    have h1 := inner_len (h r List.mem_cons_self)
    have h2 := ringL_len r
    show (ringL r ++ ordL rs).length ≤ _
    rw [List.length_append, List.flatten_cons, List.length_append, List.length_cons]
    omega
theorem inner_no {c : Nat} (h : c < 48 ∨ 57 < c) (h2 : c ≠ 32) (r : List Nat) : c ∉ inner r := fun hc => by
  rcases joinL_mem hc with h | ⟨p, hp, h3⟩
  · simp at h; exact h2 h
  · obtain ⟨x, _, rfl⟩ := List.mem_map.mp hp
    exact TL.numL_free h h3
theorem ordL_eq : ∀ {rs : List (List Nat)}, rs ≠ [] → ordL rs = 40 :: (TL.joinL [41, 40] (rs.map inner) ++ [41])
  | [], h => absurd rfl h
  | [r], _ => by simp [ordL, ringL, TL.joinL]
  | r :: q :: rs, _ => by
    have ih := ordL_eq (rs := q :: rs) (by simp)
    show ringL r ++ ordL (q :: rs) = 40 :: ((inner r ++ ([41, 40] ++ TL.joinL [41, 40] ((q :: rs).map inner))) ++ [41])
    rw [ih]
    simp [ringL]
theorem numL_head : ∀ (n : Nat), (TL.numL n).head? = some 48 → n = 0 := by
  intro n
  induction n using Nat.strongRecOn with
  | _ n ih =>
    intro h
    by_cases c : n < 10
    · rw [TL.numL_lt c] at h
      have : 48 + n = 48 := by simpa using h
      omega
    · rw [TL.numL_step (by omega)] at h
      have hne := TL.numL_ne (n / 10)
      obtain ⟨x, l, e⟩ := List.exists_cons_of_ne_nil hne
      have h' : (TL.numL (n / 10)).head? = some 48 := by
        rw [e] at h ⊢
        exact h
      have := ih (n / 10) (by omega) h'
      omega
abbrev txts (ys : List (List Nat)) : List V := ys.map fun l => V.str (S l)
theorem txts_eq (ys : List (List Nat)) : txts ys = (ys.map S).map V.str := by rw [List.map_map]; rfl
theorem txts_get {ys : List (List Nat)} {i : Nat} (h : i < ys.length) : (txts ys)[i]? = some (.str (S ys[i])) := by
  rw [List.getElem?_map, List.getElem?_eq_getElem h]; rfl
theorem of_txts {ys : List (List Nat)} {i : Nat} {v : V} (h : (txts ys)[i]? = some v) : ∃ hi : i < ys.length, v = .str (S ys[i]) := by
  have hi : i < (txts ys).length := (List.getElem?_eq_some_iff.mp h).1
  rw [List.length_map] at hi
  rw [txts_get hi] at h
  exact ⟨hi, (Option.some.inj h).symm⟩
section
variable {D : Ends} {σ : List (Option V)} {H : Hp} {Q : VK} {tb : TS} {te : TE} {K : PySem.W.Frag} {p : Addr}
theorem r_addS {a b : List Nat} (h : a.length + b.length ≤ 10000000) (q : Q (.str (S (a ++ b))) H) : rAddS (.str (S a)) (.str (S b)) H Q :=
  ⟨S a, S b, rfl, rfl, by rw [SX.S_len, SX.S_len]; exact Nat.le_trans h (by decide), by rw [SX.S_cat]; exact q⟩
theorem r_join {ys : List (List Nat)} {a : List Nat} (h : H p = some (.lst (txts ys))) (B : Nat) (hB : ∀ y ∈ ys, y.length ≤ B) (hz : ys.length * (B + a.length) ≤ 10000000) (q : Q (.str (S (TL.joinL a ys))) H) : rJoin K (.str (S a)) [.ref p] H Q := by
  refine ⟨S a, p, ys.map S, rfl, rfl, .inl (by rw [← txts_eq]; exact SqL.of h), ?_, by rw [SX.join_S]; exact q⟩
  rw [SX.lens, List.length_map, SX.S_len]
  have : (ys.map (·.length)).sum ≤ ys.length * B := by
    clear h hz q
    induction ys with
    | nil => exact Nat.zero_le _
    | cons y l ih =>
      have i1 := ih fun z hz => hB z (List.mem_cons_of_mem _ hz)
      have i2 := hB y List.mem_cons_self
      rw [List.map_cons, List.sum_cons, List.length_cons, Nat.succ_mul]
      omega
  rw [Nat.mul_add] at hz
  omega
theorem r_split {a b : List Nat} (hb : b ≠ []) (hk : b.all (· < 256) = true) (hz : a.length ≤ 10000000) (q : ∀ p H', H p = none → Same H H' → H' p = some (.lst (txts (TL.spl b 0 [] a))) → Q (.ref p) H') : rSplit (.str (S a)) [.str (S b)] H Q := by
  refine ⟨S a, S b, rfl, rfl, ?_, ?_, ?_⟩
  · rw [SX.S_len]
    cases b with
    | nil => exact absurd rfl hb
    | cons x l => rfl
  · rw [SX.S_len]
    exact Nat.le_trans (Nat.add_le_add_right hz 2) (by decide)
  · rw [SX.split_S hb hk]
    intro p hp
    exact q p _ hp (Same.new hp) (by rw [upd_same, txts_eq])
theorem log600 {n : Nat} (h : n < 2 ^ 600) : n.log2 < 1920 := by
  rcases Nat.eq_zero_or_pos n with rfl | hp
  · decide
  · have := (Nat.log2_lt (by omega)).mpr h
    omega
theorem r_strI {n : Nat} (h : n < 2 ^ 600) (q : Q (.str (S (TL.numL n))) H) : rStrA [ni n] H Q :=
  .inl ⟨(n : Int), rfl, by rw [Int.natAbs_natCast]; exact log600 h, by rw [SX.num_S]; exact q⟩
theorem r_strS {z : Str} (q : Q (.str z) H) : rStrA [.str z] H Q := .inr ⟨z, rfl, q⟩
theorem r_lenS {a : List Nat} (hz : a.length ≤ 10000000) (q : Q (ni a.length) H) : rLenStr [.str (S a)] H Q := ⟨S a, rfl, by rw [SX.S_len]; exact Nat.le_trans hz (by decide), by rw [SX.S_len]; exact q⟩
theorem r_iStr {R : It → Hp → Prop} (h : te σ H fun v H1 => ∃ x, v = .str x ∧ R (Its x) H1) : iStr te σ H R := h
theorem forS {l : List Nat} {j : Nat} (Pv : Nat → List (Option V) → Hp → Prop) (h0 : Pv 0 σ H) (hs : ∀ i c σ H, l[i]? = some c → Pv i σ H → tb { D with nx := Pv (i + 1), ct := Pv (i + 1), bk := D.nx } (σ.set j (some (.str ⟨#[c]⟩))) H) (hd : ∀ σ H, Pv l.length σ H → D.nx σ H) : ForJ (Its (S l)) (gName j) tb D σ H := by
  refine ⟨fun i m σ H => m = l.length - i ∧ i ≤ l.length ∧ Pv i σ H, ⟨l.length, by simp, Nat.zero_le _, h0⟩, ?_⟩
  rintro i m σ H ⟨rfl, hi, pv⟩
  have hsz : (S l).cps.size = l.length := by simp [S]
  by_cases hlt : i < l.length
  · refine .inr ⟨show i < (S l).cps.size by rw [hsz]; exact hlt, Pv (i + 1), fun σ' H' p' => ⟨l.length - (i + 1), by omega, rfl, hlt, p'⟩, fun x H' y => ?_⟩
    obtain ⟨rfl, c, hc, rfl⟩ := y
    have hc' : l[i]? = some c := by
      have : (S l).cps[i]? = l[i]? := by simp [S]
      rw [← this]
      exact hc
    exact hs i c σ H' hc' pv
  · have e : i = l.length := by omega
    subst e
    exact .inl ⟨show (S l).cps.size ≤ l.length by rw [hsz]; exact Nat.le_refl _, hd σ H pv⟩
/-- calls, each of which makes a list of numbers -/
theorem lcRef {xs : List V} {j : Nat} (rs : List (List Nat)) (h : H p = some (.lst xs)) (hl : xs.length = rs.length) (hz : xs.length ≤ 1000)
    (hs : ∀ (i : Nat) x r H' (R : VK), xs[i]? = some x → rs[i]? = some r → Same H H' → (∀ q H'', H' q = none → Same H' H'' → H'' q = some (.lst (nis r)) → R (.ref q) H'') → te ((wipe σ [j]).set j (some x)) H' R)
    (q : ∀ D H' as, H D = none → Same H H' → H' D = some (.lst (refs as)) → as.length = rs.length → (∀ (i : Nat) a r, as[i]? = some a → rs[i]? = some r → H' a = some (.lst (nis r))) → Q (.ref D) H') : LcJ (Itl K p) (gName j) tYes te [j] σ Q H := fun D hD =>
  lc_list (xs := xs) (fun i H' => ∃ as : List Addr, LcAt H D (refs as) H' ∧ as.length = i ∧ (∀ a ∈ as, a ≠ D) ∧ ∀ (k : Nat) (a : Addr) (r : List Nat), as[k]? = some a → (rs.take i)[k]? = some r → H' a = some (.lst (nis r))) ⟨[], .start hD, rfl, by simp, fun k a r h => by simp at h⟩ (fun i H' _ ⟨_, a, _⟩ => SqL.of (a.same _ _ h)) (fun i x H' hi ⟨as, a, hln, hne, hat⟩ => ⟨wipe1 σ j x, by
    show te _ H' _
    have hix : i < rs.length := by rw [← hl]; exact (List.getElem?_eq_some_iff.mp hi).1
    refine hs i x rs[i] H' _ hi (List.getElem?_eq_getElem hix) a.same fun t H'' nt s ht => ⟨_, s _ _ a.at_, smaller (by rw [List.length_map]; omega), ?_⟩
    have hm := a.more (y := .ref t) s
    have htd : t ≠ D := fun z => by rw [z, a.at_] at nt; cases nt
    refine ⟨as ++ [t], by rw [show refs (as ++ [t]) = refs as ++ [V.ref t] by simp [refs]]; exact hm, by rw [List.length_append, hln]; rfl, fun b hb => ?_, fun k b r h1 h2 => ?_⟩
    · rcases List.mem_append.mp hb with hb | hb
      · exact hne b hb
      · rw [List.mem_singleton.mp hb]; exact htd
    · rw [take_succ hix] at h2
      rcases snoc_get (by rw [hln, List.length_take]; omega) h1 h2 with ⟨e1, e2⟩ | ⟨rfl, rfl⟩
      · rw [upd_ne (hne b (List.mem_of_getElem? e1))]
        exact s _ _ (hat k b r e1 e2)
      · rw [upd_ne htd]
        exact ht⟩) fun H' ⟨as, a, hln, _, hat⟩ => by
    rw [hl, List.take_length] at hat
    exact q D H' as a.new a.same a.at_ (by rw [hln, hl]) hat
end
/-! ### promises of texts.py -/
def sp_ring_text : Sp := fun vs H Q _ => ∃ (a : Addr) (r : List Nat), vs = [.ref a] ∧ H a = some (.tup (nis r)) ∧ r.length ≤ 60 ∧ (∀ x ∈ r, x ≤ 1000) ∧ ∀ H', Same H H' → Q (.str (S (ringL r))) H'
def sp_order_text : Sp := fun vs H Q _ => ∃ (a : Addr) (o : List Nat), vs = [.ref a] ∧ H a = some (.tup (nis o)) ∧ Obx.IsOrd o ∧ o.length ≤ 60 ∧ ∀ H', Same H H' → Q (.str (S (ordL (Obx.rings o)))) H'
def sp_number_in : Sp := fun vs H Q _ => ∃ n : Nat, vs = [.str (S (TL.numL n))] ∧ n < 10 ^ 50 ∧ ∀ H', Same H H' → Q (ni n) H'
def sp_numbers_in : Sp := fun vs H Q _ => ∃ r : List Nat, vs = [.str (S (inner r))] ∧ r ≠ [] ∧ r.length ≤ 60 ∧ (∀ x ∈ r, x ≤ 1000) ∧ ∀ p H', H p = none → Same H H' → H' p = some (.lst (nis r)) → Q (.ref p) H'
def sp_rings_in : Sp := fun vs H Q _ => ∃ rs : List (List Nat), vs = [.str (S (ordL rs))] ∧ rs ≠ [] ∧ rs.length ≤ 60 ∧ (∀ r ∈ rs, r ≠ [] ∧ r.length ≤ 60 ∧ ∀ x ∈ r, x ≤ 1000) ∧ ∀ p H', H p = none → Same H H' → RingsQ H' p rs → Q (.ref p) H'
def sp_read_order : Sp := fun vs H Q _ => ∃ o : List Nat, vs = [.str (S (ordL (Obx.rings o)))] ∧ Obx.IsOrd o ∧ 1 ≤ o.length ∧ o.length ≤ 60 ∧ ∀ p H', H p = none → Same H H' → H' p = some (.tup (nis o)) → Q (.ref p) H'
end
section
/-! ### questions -/
open SX (S)
def wd (s : String) : List Nat := s.toList.map Char.toNat
theorem litw (s : String) : Str.ofString s = S (wd s) := lit rfl
inductive Qn
  | rings (o : List Nat)
  | find (o ops : List Nat)
  | need (o : List Nat) (k : Nat)
  | help (o : List Nat) (k : Nat)
  | good (n k : Nat)
  | gord (n k num : Nat)
  | group (n k : Nat)
  | share (ops : List Nat)
namespace Qn
def word : Qn → List Nat
  | rings _ => wd "rings"
  | find _ _ => wd "find"
  | need _ _ => wd "need"
  | help _ _ => wd "help"
  | good _ _ => wd "good"
  | gord _ _ _ => wd "goodorder"
  | group _ _ => wd "group"
  | share _ => wd "share"
def nums : Qn → List Nat
  | rings _ => []
  | find _ ops => ops
  | need _ k => [k]
  | help _ k => [k]
  | good n k => [n, k]
  | gord n k num => [n, k, num]
  | group n k => [n, k, n]
  | share ops => ops
def ord : Qn → Option (List Nat)
  | rings o => some o
  | find o _ => some o
  | need o _ => some o
  | help o _ => some o
  | _ => none
def head (q : Qn) : List Nat := TL.joinL [32] (q.word :: q.nums.map TL.numL)
def text (q : Qn) : List Nat :=
  match q.ord with
  | none => q.head
  | some o => q.head ++ ([32, 47, 32] ++ ordL (Obx.rings o))
def pairT (p : Nat × Nat) : List Nat := TL.numL p.1 ++ (45 :: TL.numL p.2)
def blanks (l : List (List Nat)) : List Nat := if l = [] then wd "none" else TL.joinL [32] l
def ans : Qn → List Nat
  | rings o => blanks ((Obx.rings o).map fun r => TL.numL r.length)
  | find o ops => blanks ((findersM o ops).map TL.numL)
  | need o k => TL.numL (Obx.need k (Obx.rings o))
  | help o k => blanks ((Obx.exch k (Obx.rings o)).map pairT)
  | good n k => TL.numL (Obx.G k n)
  | gord n k num => ordL (Obx.goodRings k n (List.range n) num)
  | group n k => TL.numL (Obx.G k n)
  | share ops => TL.numL (mal ops / gcdF ops) ++ (wd " of " ++ TL.numL (Obx.fact ops.length / gcdF ops))
def ok : Qn → Prop
  | rings o => Obx.IsOrd o ∧ 1 ≤ o.length ∧ o.length ≤ 40
  | find o ops => Obx.IsOrd o ∧ 1 ≤ o.length ∧ o.length ≤ 40 ∧ ops.length = o.length ∧ ∀ x ∈ ops, x ≤ o.length
  | need o k => Obx.IsOrd o ∧ 1 ≤ o.length ∧ o.length ≤ 40 ∧ 1 ≤ k ∧ k ≤ o.length
  | help o k => Obx.IsOrd o ∧ 1 ≤ o.length ∧ o.length ≤ 40 ∧ 1 ≤ k ∧ k ≤ o.length
  | good n k => 1 ≤ n ∧ n ≤ 40 ∧ 1 ≤ k ∧ k ≤ n
  | gord n k num => 1 ≤ n ∧ n ≤ 40 ∧ 1 ≤ k ∧ k ≤ n ∧ num < Obx.G k n
  | group n k => 1 ≤ n ∧ n ≤ 40 ∧ 1 ≤ k ∧ k ≤ n
  | share ops => 1 ≤ ops.length ∧ ops.length ≤ 40 ∧ ∀ x ∈ ops, x ≤ ops.length
theorem ord_ok {q : Qn} {o : List Nat} (h : q.ok) (e : q.ord = some o) : Obx.IsOrd o ∧ 1 ≤ o.length ∧ o.length ≤ 40 := by
  cases q with
  | rings o' => cases e; exact h
  | find o' ops => cases e; exact ⟨h.1, h.2.1, h.2.2.1⟩
  | need o' k => cases e; exact ⟨h.1, h.2.1, h.2.2.1⟩
  | help o' k => cases e; exact ⟨h.1, h.2.1, h.2.2.1⟩
  | _ => cases e
theorem big50 : Obx.fact 40 < 10 ^ 50 := by decide
theorem num50 {n k m : Nat} (h : m < Obx.G k n) (hn : n ≤ 40) : m < 10 ^ 50 :=
  Nat.lt_of_le_of_lt (Nat.le_trans (Nat.le_of_lt h) (Nat.le_trans (Obx.gg_fact 1 k n) (Obx.fact_mono hn))) big50
theorem lt50 {n : Nat} (h : n ≤ 1000) : n < 10 ^ 50 := Nat.lt_of_le_of_lt h (by decide)
theorem nums_ok {q : Qn} (h : q.ok) : q.nums.length ≤ 40 ∧ ∀ x ∈ q.nums, x < 10 ^ 50 := by
  cases q with
  | rings o => exact ⟨by simp [nums], by simp [nums]⟩
  | find o ops => exact ⟨by show ops.length ≤ 40; rw [h.2.2.2.1]; exact h.2.2.1, fun x hx => lt50 (by have := h.2.2.2.2 x hx; have := h.2.2.1; omega)⟩
  | need o k => exact ⟨by simp [nums], fun x hx => lt50 (by have : x = k := by simpa [nums] using hx
                                                            have := h.2.2.2.2; have := h.2.2.1; omega)⟩
  | help o k => exact ⟨by simp [nums], fun x hx => lt50 (by have : x = k := by simpa [nums] using hx
                                                            have := h.2.2.2.2; have := h.2.2.1; omega)⟩
  | good n k => exact ⟨by simp [nums], fun x hx => lt50 (by have : x = n ∨ x = k := by simpa [nums] using hx
                                                            have := h.2.2.2; have := h.2.1; omega)⟩
  | gord n k num => exact ⟨by simp [nums], fun x hx => by
      have : x = n ∨ x = k ∨ x = num := by simpa [nums] using hx
      obtain ⟨h1, h2, h3, h4, h5⟩ := h
      rcases this with rfl | rfl | rfl
      · exact lt50 (by omega)
      · exact lt50 (by omega)
      · exact num50 h5 h2⟩
  | group n k => exact ⟨by simp [nums], fun x hx => lt50 (by have : x = n ∨ x = k ∨ x = n := by simpa [nums] using hx
                                                             have := h.2.2.2; have := h.2.1; omega)⟩
  | share ops => exact ⟨h.2.1, fun x hx => lt50 (by have := h.2.2 x hx; have := h.2.1; omega)⟩
theorem word_ok (q : Qn) : 32 ∉ q.word ∧ 47 ∉ q.word ∧ 10 ∉ q.word ∧ q.word.length ≤ 10 ∧ q.word ≠ [] := by
  have w8 : ∀ w ∈ [wd "rings", wd "find", wd "need", wd "help", wd "good", wd "goodorder", wd "group", wd "share"], 32 ∉ w ∧ 47 ∉ w ∧ 10 ∉ w ∧ w.length ≤ 10 ∧ w ≠ [] := by decide
  refine w8 _ ?_
  cases q <;> simp [word]
theorem head_no {q : Qn} {c : Nat} (h1 : c ≠ 32) (h2 : c < 48 ∨ 57 < c) (hw : c ∉ q.word) : c ∉ q.head := fun hc => by
  rcases joinL_mem hc with h | ⟨p, hp, h⟩
  · simp at h; exact h1 h
  · rcases List.mem_cons.mp hp with rfl | hp
    · exact hw h
    · obtain ⟨x, _, rfl⟩ := List.mem_map.mp hp
      exact TL.numL_free h2 h
theorem head_split (q : Qn) : TL.spl [32] 0 [] q.head = q.word :: q.nums.map TL.numL := by
  refine TL.spl_join (s := 32) (S := []) (by simp) fun p hp => ?_
  rcases List.mem_cons.mp hp with rfl | hp
  · exact (word_ok q).1
  · obtain ⟨x, _, rfl⟩ := List.mem_map.mp hp
    exact TL.numL_free (.inl (by decide))
theorem head_len {q : Qn} (h : q.ok) : q.head.length ≤ 41 * (50 + 1) := by
  have hn := nums_ok h
  have := joinL_len [32] 50 (q.word :: q.nums.map TL.numL) fun p hp => by
    rcases List.mem_cons.mp hp with rfl | hp
    · have := (word_ok q).2.2.2.1
      omega
    · obtain ⟨x, hx, rfl⟩ := List.mem_map.mp hp
      exact numL50 (hn.2 x hx)
  refine Nat.le_trans this ?_
  rw [List.length_cons, List.length_map]
  exact Nat.mul_le_mul_right _ (by omega)
theorem rings_le {o : List Nat} (io : Obx.IsOrd o) (h : o.length ≤ 60) : ∀ r ∈ Obx.rings o, ∀ x ∈ r, x ≤ 1000 := fun r hr x hx => by
  have := (Obx.rings_parts io).cover.perm.mem_iff.mp (List.mem_flatten.mpr ⟨r, hr, hx⟩)
  rw [List.mem_range] at this
  omega
theorem rings_cnt {o : List Nat} (io : Obx.IsOrd o) : (Obx.rings o).length ≤ o.length ∧ (Obx.rings o).flatten.length = o.length := by
  have P := Obx.rings_parts io
  have hf : (Obx.rings o).flatten.length = o.length := P.cover.len
  refine ⟨?_, hf⟩
  have : ∀ (l : List (List Nat)), (∀ r ∈ l, r ≠ []) → l.length ≤ l.flatten.length := by
    intro l
    induction l with
    | nil => intro _; exact Nat.le_refl _
    | cons r l ih =>
      intro h
      have i1 := ih fun q hq => h q (List.mem_cons_of_mem _ hq)
      have i2 : r.length ≠ 0 := fun z => h r List.mem_cons_self (List.length_eq_zero_iff.mp z)
      rw [List.flatten_cons, List.length_append, List.length_cons]
      omega
  have := this _ P.ne
  omega
theorem ord_len {o : List Nat} (io : Obx.IsOrd o) (h : o.length ≤ 60) : (ordL (Obx.rings o)).length ≤ 420 := by
  have h1 := ordL_len (rings_le io h)
  have h2 := rings_cnt io
  omega
theorem ordL_mem {c : Nat} {rs : List (List Nat)} (h : c ∈ ordL rs) : c = 40 ∨ c = 41 ∨ c = 32 ∨ (48 ≤ c ∧ c ≤ 57) := by
  obtain ⟨l, hl, hc⟩ := List.mem_flatten.mp h
  obtain ⟨r, _, rfl⟩ := List.mem_map.mp hl
  have hc' : c ∈ 40 :: (inner r ++ [41]) := hc
  rw [List.mem_cons, List.mem_append, List.mem_singleton] at hc'
  rcases hc' with h | h | h
  · exact .inl h
  · apply Classical.byContradiction
    intro z
    have z' : (c < 48 ∨ 57 < c) ∧ c ≠ 32 := ⟨by omega, by omega⟩
    exact inner_no z'.1 z'.2 r h
  · exact .inr (.inl h)
theorem text_len {q : Qn} (h : q.ok) : q.text.length ≤ 3000 := by
  have hl := head_len h
  unfold text
  split
  · omega
  · rename_i o e
    have ho := ord_ok h e
    have := ord_len ho.1 (by omega)
    rw [List.length_append, List.length_append]
    show _ + (3 + _) ≤ _
    omega
theorem text_no10 {q : Qn} : 10 ∉ q.text := by
  have hh := head_no (q := q) (c := 10) (by decide) (.inl (by decide)) (word_ok q).2.2.1
  unfold text
  split
  · exact hh
  · intro z
    rw [List.mem_append, List.mem_append] at z
    rcases z with z | z | z
    · exact hh z
    · simp at z
    · rcases ordL_mem z with h | h | h | h <;> omega
end Qn
theorem pre47 {l : List Nat} (h : l[1]? ≠ some 47) : TL.pre [32, 47, 32] l = false := by
  match l, h with
  | [], _ => rfl
  | [x], _ => simp [TL.pre]
  | x :: y :: t, h =>
    have : y ≠ 47 := fun z => h (by rw [z]; rfl)
    simp [TL.pre, this]
theorem slash_part {p rest : List Nat} (h : 47 ∉ p) : TL.spl [32, 47, 32] 0 [] (p ++ ([32, 47, 32] ++ rest)) = p :: TL.spl [32, 47, 32] 0 [] rest := by
  have := TL.spl_part (S := [32, 47, 32]) (p := p) (rest := rest) (acc := []) (by simp) fun i hi => pre47 fun z => by
    rw [List.getElem?_drop] at z
    by_cases c : i + 1 < p.length
    · rw [List.getElem?_append_left c] at z
      exact h (List.mem_of_getElem? z)
    · have e : i + 1 = p.length := by omega
      rw [e, List.getElem?_append_right (Nat.le_refl _), Nat.sub_self] at z
      simp at z
  rw [List.nil_append] at this
  exact this
theorem slash_last {p : List Nat} (h : 47 ∉ p) : TL.spl [32, 47, 32] 0 [] p = [p] := by
  have := TL.spl_last (S := [32, 47, 32]) (p := p) (acc := []) fun i hi => pre47 fun z => by
    rw [List.getElem?_drop] at z
    exact h (List.mem_of_getElem? z)
  rw [List.nil_append] at this
  exact this
/-! ### sizes of answers -/
theorem pow200 : 2 ^ 600 < 10 ^ 200 := by decide
theorem numL200 {n : Nat} (h : n < 2 ^ 600) : (TL.numL n).length ≤ 200 := TL.numL_len (by decide) (Nat.lt_trans h pow200)
theorem manyGo_bd (n : Nat) : ∀ (l B : List Nat) (i : Nat), i + l.length = n → n ≤ 40 → B.length ≤ n - i + 1 → Obx.Bd (2 ^ (11 * i)) B → Obx.Bd (2 ^ (11 * n)) (Obx.manyGo n B i l)
  | [], B, i, h, _, _, hB => by
    have : i = n := by simpa using h
    subst this
    exact hB
  | m :: ms, B, i, h, hn, hl, hB => by
    rw [List.length_cons] at h
    refine manyGo_bd n ms (Obx.oneMore B (n - i - 1) m) (i + 1) (by omega) hn (by rw [Obx.oneMore_length]; omega) ?_
    have := Obx.more_bd (left := n - i - 1) (most := m) hB (by omega)
    have e2 : 2048 * 2 ^ (11 * i) = 2 ^ (11 * (i + 1)) := by
      rw [show 11 * (i + 1) = 11 + 11 * i by omega, Nat.pow_add]
    rw [e2] at this
    exact this
theorem mal_bd {ops : List Nat} (h : ops.length ≤ 40) : mal ops < 2 ^ 600 := by
  have hl : (sortN ops).length = ops.length := (sortN_perm ops).length_eq
  have := manyGo_bd (sortN ops).length (sortN ops) [1] 0 (by omega) (by omega) (by simp) (fun i => by
    match i with
    | 0 => exact Nat.le_refl _
    | i + 1 => exact Nat.zero_le _) 0
  refine Nat.lt_of_le_of_lt this (Nat.pow_lt_pow_right (by decide) (by omega))
/-! ### promises of sheet.py -/
def sp_with_blanks : Sp := fun vs H Q _ => ∃ (a : Addr) (xs : List V) (ys : List (List Nat)) (w : List Nat), vs = [.ref a, .str (S w)] ∧ (H a = some (.lst xs) ∨ H a = some (.tup xs)) ∧ xs.length = ys.length ∧ ys.length ≤ 60 ∧ (∀ y ∈ ys, y.length ≤ 500) ∧
  (∀ (i : Nat) (x : V), xs[i]? = some x → ∀ (H : Hp) (R : VK), R (.str (S (ys.getD i []))) H → rStrA [x] H R) ∧ ∀ H', Same H H' → Q (.str (S (if ys = [] then w else TL.joinL [32] ys))) H'
def sp_answer_by_order : Sp := fun vs H Q _ => ∃ (q : Qn) (a b : Addr) (o : List Nat), vs = [.str (S q.word), .ref a, .ref b] ∧ H a = some (.lst (nis q.nums)) ∧ H b = some (.tup (nis o)) ∧ q.ord = some o ∧ q.ok ∧ ∀ H', Same H H' → Q (.str (S q.ans)) H'
def sp_answer_by_numbers : Sp := fun vs H Q _ => ∃ (q : Qn) (a : Addr), vs = [.str (S q.word), .ref a] ∧ H a = some (.lst (nis q.nums)) ∧ q.ord = none ∧ q.ok ∧ ∀ H', Same H H' → Q (.str (S q.ans)) H'
def sp_answer_of : Sp := fun vs H Q _ => ∃ q : Qn, vs = [.str (S q.text)] ∧ q.ok ∧ ∀ H', Same H H' → Q (.str (S q.ans)) H'
def sp_answered_row : Sp := sp_answer_of
def sp_answered : Sp := fun vs H Q _ => ∃ qs : List Qn, vs = [.str (S (TL.joinL [10] (qs.map Qn.text)))] ∧ qs ≠ [] ∧ qs.length ≤ 20 ∧ (∀ q ∈ qs, q.ok) ∧ ∀ H', Same H H' → Q (.str (S (TL.joinL [10] (qs.map Qn.ans)))) H'
namespace Qn
theorem gord_rings {n k num : Nat} (hk : 1 ≤ k) (h : num < Obx.G k n) : Obx.IsOrd (Obx.orderBy (Obx.goodRings k n (List.range n) num)) ∧ Obx.rings (Obx.orderBy (Obx.goodRings k n (List.range n) num)) = Obx.goodRings k n (List.range n) num ∧ (Obx.orderBy (Obx.goodRings k n (List.range n) num)).length = n ∧
    (∀ r ∈ Obx.goodRings k n (List.range n) num, r.length ≤ k) ∧ Obx.goodNo k (Obx.goodRings k n (List.range n) num) (List.range n) = num ∧ Obx.Canon (List.range n) (Obx.goodRings k n (List.range n) num) := by
  have ok := Obx.good_ok hk n (List.range n) num List.nodup_range (by rw [List.length_range]; exact Nat.le_refl _) (by rw [List.length_range]; exact h)
  have c := Obx.rings_canon ok.1
  exact ⟨c.1, c.2.1, c.2.2, ok.2.1, ok.2.2, ok.1⟩
theorem blanks_len {l : List (List Nat)} (h1 : l.length ≤ 60) (h2 : ∀ p ∈ l, p.length ≤ 10) : (blanks l).length ≤ 1000 := by
  unfold blanks
  split
  · decide
  · have := joinL_len [32] 10 l h2
    refine Nat.le_trans this (Nat.le_trans (Nat.mul_le_mul_right _ h1) (by decide))
theorem blanks_no {c : Nat} {l : List (List Nat)} (hc : c ≠ 32) (hn : c ∉ wd "none") (h : ∀ p ∈ l, c ∉ p) : c ∉ blanks l := by
  unfold blanks
  split
  · exact hn
  · intro z
    rcases joinL_mem z with z | ⟨p, hp, hz⟩
    · simp at z; exact hc z
    · exact h p hp hz
theorem finders_len (o ops : List Nat) : (findersM o ops).length ≤ o.length := by
  have := List.length_filter_le (findB1 o ops) (List.range o.length)
  rw [List.length_range] at this
  exact this
theorem finders_lt {o ops : List Nat} {x : Nat} (h : x ∈ findersM o ops) : x < o.length := by
  have := (List.mem_filter.mp h).1
  rwa [List.mem_range] at this
theorem exch_mem {o : List Nat} {k : Nat} (io : Obx.IsOrd o) (h : o.length ≤ 60) {p : Nat × Nat} (hp : p ∈ Obx.exch k (Obx.rings o)) : p.1 ≤ 1000 ∧ p.2 ≤ 1000 := by
  obtain ⟨r, hr, hp⟩ := List.mem_flatMap.mp hp
  obtain ⟨a, _, rfl⟩ := List.mem_map.mp hp
  have hg : ∀ i, r.getD i 0 ≤ 1000 := fun i => by
    rw [List.getD_eq_getElem?_getD]
    cases e : r[i]? with
    | none => exact Nat.zero_le _
    | some x => exact rings_le io h r hr x (List.mem_of_getElem? e)
  have h1 := hg a
  have h2 := hg (r.length - 1)
  simp only [Obx.mm]
  omega
theorem exch_le' (k : Nat) : ∀ rs : List (List Nat), (Obx.exch k rs).length ≤ rs.flatten.length
  | [] => Nat.le_refl _
  | r :: rs => by
    have ih := exch_le' k rs
    show (Obx.exR k r ++ Obx.exch k rs).length ≤ _
    have := Obx.exR_len k r
    have h2 := Nat.div_le_self (r.length - 1) k
    rw [List.length_append, List.flatten_cons, List.length_append]
    omega
theorem pairT_len {p : Nat × Nat} (h : p.1 ≤ 1000 ∧ p.2 ≤ 1000) : (pairT p).length ≤ 9 := by
  have h1 := numL4 h.1
  have h2 := numL4 h.2
  show (TL.numL p.1 ++ (45 :: TL.numL p.2)).length ≤ 9
  rw [List.length_append, List.length_cons]
  omega
theorem need_small {o : List Nat} {k : Nat} (io : Obx.IsOrd o) (h : o.length ≤ 60) : Obx.need k (Obx.rings o) ≤ 60 := by
  rw [← Obx.exch_len]
  have := exch_le' k (Obx.rings o)
  have := rings_cnt io
  omega
theorem ans_ok {q : Qn} (h : q.ok) : q.ans.length ≤ 1000 ∧ 10 ∉ q.ans := by
  cases q with
  | rings o =>
    have hc := rings_cnt h.1
    have hr : ∀ r ∈ Obx.rings o, r.length ≤ 40 := fun r hr => by
      have := (List.sublist_flatten_of_mem hr).length_le
      have := h.2.2
      omega
    refine ⟨blanks_len (by rw [List.length_map]; have := h.2.2; omega) fun p hp => ?_, blanks_no (by decide) (by decide) fun p hp => ?_⟩
    · obtain ⟨r, hr', rfl⟩ := List.mem_map.mp hp
      have := numL4 (n := r.length) (by have := hr r hr'; omega)
      omega
    · obtain ⟨r, hr', rfl⟩ := List.mem_map.mp hp
      exact TL.numL_free (.inl (by decide))
  | find o ops =>
    refine ⟨blanks_len (by rw [List.length_map]; have := finders_len o ops; have := h.2.2.1; omega) fun p hp => ?_, blanks_no (by decide) (by decide) fun p hp => ?_⟩
    · obtain ⟨x, hx, rfl⟩ := List.mem_map.mp hp
      have := numL4 (n := x) (by have := finders_lt hx; have := h.2.2.1; omega)
      omega
    · obtain ⟨x, hx, rfl⟩ := List.mem_map.mp hp
      exact TL.numL_free (.inl (by decide))
  | need o k =>
    have := numL4 (n := Obx.need k (Obx.rings o)) (by have := need_small (k := k) h.1 (by have := h.2.2.1; omega); omega)
    exact ⟨by show (TL.numL _).length ≤ _; omega, TL.numL_free (.inl (by decide))⟩
  | help o k =>
    have ho : o.length ≤ 60 := by have := h.2.2.1; omega
    refine ⟨blanks_len (by rw [List.length_map]; have := exch_le' k (Obx.rings o); have := rings_cnt h.1; omega) fun p hp => ?_, blanks_no (by decide) (by decide) fun p hp => ?_⟩
    · obtain ⟨x, hx, rfl⟩ := List.mem_map.mp hp
      have := pairT_len (exch_mem h.1 ho hx)
      omega
    · obtain ⟨x, hx, rfl⟩ := List.mem_map.mp hp
      intro z
      rcases List.mem_append.mp z with z | z
      · exact TL.numL_free (.inl (by decide)) z
      · rcases List.mem_cons.mp z with z | z
        · cases z
        · exact TL.numL_free (.inl (by decide)) z
  | good n k =>
    have := numL50 (n := Obx.G k n) (Nat.lt_of_le_of_lt (Nat.le_trans (Obx.gg_fact 1 k n) (Obx.fact_mono h.2.1)) big50)
    exact ⟨by show (TL.numL _).length ≤ _; omega, TL.numL_free (.inl (by decide))⟩
  | gord n k num =>
    have g := gord_rings h.2.2.1 h.2.2.2.2
    have hl := ord_len g.1 (by rw [g.2.2.1]; have := h.2.1; omega)
    rw [g.2.1] at hl
    refine ⟨by show (ordL _).length ≤ _; omega, fun z => ?_⟩
    rcases ordL_mem z with z | z | z | z <;> omega
  | group n k =>
    have := numL50 (n := Obx.G k n) (Nat.lt_of_le_of_lt (Nat.le_trans (Obx.gg_fact 1 k n) (Obx.fact_mono h.2.1)) big50)
    exact ⟨by show (TL.numL _).length ≤ _; omega, TL.numL_free (.inl (by decide))⟩
  | share ops =>
    have h1 := numL200 (n := mal ops / gcdF ops) (Nat.lt_of_le_of_lt (Nat.div_le_self _ _) (mal_bd h.2.1))
    have h2 := numL50 (n := Obx.fact ops.length / gcdF ops) (Nat.lt_of_le_of_lt (Nat.le_trans (Nat.div_le_self _ _) (Obx.fact_mono h.2.1)) big50)
    refine ⟨?_, fun z => ?_⟩
    · show (TL.numL _ ++ (wd " of " ++ TL.numL _)).length ≤ _
      rw [List.length_append, List.length_append]
      show _ + (4 + _) ≤ _
      omega
    · have z' : 10 ∈ TL.numL (mal ops / gcdF ops) ++ (wd " of " ++ TL.numL (Obx.fact ops.length / gcdF ops)) := z
      rw [List.mem_append, List.mem_append] at z'
      rcases z' with z | z | z
      · exact TL.numL_free (.inl (by decide)) z
      · exact absurd z (by decide)
      · exact TL.numL_free (.inl (by decide)) z
end Qn
section
variable {D : Ends} {σ : List (Option V)} {H : Hp} {te : TE}
def JyQ (x : V) (ts : List TE) (acc : Str) (σ : List (Option V)) (H : Hp) (Q : Str → Hp → Prop) : Prop := ∃ y : Str, x = .str y ∧ (acc ++ y).length ≤ sizeLine ∧ tJs ts (acc ++ y) σ H Q
def FmtQ (x : V) (Q : VK) (H : Hp) : Prop := (∃ y : Str, x = .str y ∧ y.length ≤ sizeLine ∧ Q (.str y) H) ∨ ∃ i : Int, x = .int i ∧ i.natAbs.log2 < 1920 ∧ Q (.str (toString i)) H
theorem r_js {t : TE} {ts : List TE} {acc : Str} {Q : Str → Hp → Prop} (h : t σ H fun x H1 => JyQ x ts acc σ H1 Q) : tJs (t :: ts) acc σ H Q := h
theorem r_js0 {acc : Str} {Q : Str → Hp → Prop} (h : Q acc H) : tJs [] acc σ H Q := h
theorem r_jy {a b : List Nat} {ts : List TE} {Q : Str → Hp → Prop} (hz : a.length + b.length ≤ 10000000) (q : tJs ts (S (a ++ b)) σ H Q) : JyQ (.str (S b)) ts (S a) σ H Q :=
  ⟨S b, rfl, by rw [SX.S_cat, SX.S_len, List.length_append]; exact Nat.le_trans hz (by decide), by rw [SX.S_cat]; exact q⟩
theorem r_fmt {Q : VK} (h : te σ H fun x H1 => FmtQ x Q H1) : tFmt te σ H Q := h
theorem r_fmtI {n : Nat} {Q : VK} (h : n < 2 ^ 600) (q : Q (.str (S (TL.numL n))) H) : FmtQ (ni n) Q H :=
  .inr ⟨(n : Int), rfl, by rw [Int.natAbs_natCast]; exact log600 h, by rw [SX.num_S]; exact q⟩
theorem S_empty : Str.empty = S [] := rfl
theorem S_lit {s : String} {l : List Nat} (h : l ≠ wd s) : ¬ (V.str (S l) = V.str (Str.ofString s)) := fun z => h (by rw [litw] at z; exact SX.S_inj (V.str.inj z))
theorem S_yes (s : String) : V.str (S (wd s)) = V.str (Str.ofString s) := by rw [litw]
theorem r_lenQ {K : PySem.W.Frag} {Q : VK} {p : Addr} {xs : List V} (h : H p = some (.lst xs) ∨ H p = some (.tup xs)) (q : Q (.int xs.length) H) : rLenQ K [.ref p] H Q := ⟨p, xs, rfl, h.imp SqL.of SqT.of, q⟩
end
end
section
/-! ### the law's helpers: promises -/
open SX (S)
def sp__law_cell_at (K : PySem.W.Frag) : Sp := fun vs H Q _ => ∃ (a : Addr) (ns : List Int) (k : Nat), vs = [.ref a, ni k] ∧ SqL K H a (ns.map V.int) ∧ ∀ (z : Int) H', Same H H' → Q (.int z) H'
def sp__law_all (K : PySem.W.Frag) : Sp := fun vs H Q _ => ∃ (a : Addr) (ns : List Int), vs = [.ref a] ∧ SqL K H a (ns.map V.int) ∧ ns.length ≤ 63 ∧ (∀ z ∈ ns, Builtin.Int.intBits z ≤ 1048576) ∧ ∀ (z : Int) H', Same H H' → Q (.int z) H'
def sp__law_order : Sp := fun vs H Q _ => ∃ (c : Int) (n : Nat), vs = [.int c, ni n] ∧ n ≤ 60 ∧ ∀ p H' o, H p = none → Same H H' → H' p = some (.tup (nis o)) → o.length = n → Obx.IsOrd o → Q (.ref p) H'
def sp__law_ways : Sp := fun vs H Q _ => ∃ n : Nat, vs = [ni n] ∧ 1 ≤ n ∧ n ≤ 40 ∧ ∀ H', Same H H' → Q (ni (Obx.fact n)) H'
def sp__law_words : Sp := fun vs H Q _ => ∃ (a : Addr) (l : List Nat), vs = [.ref a] ∧ (H a = some (.lst (nis l)) ∨ H a = some (.tup (nis l))) ∧ l.length ≤ 60 ∧ (∀ x ∈ l, x < 2 ^ 600) ∧ ∀ H', Same H H' → Q (.str (S (TL.joinL [32] (l.map TL.numL)))) H'
def sp__law_helped : Sp := fun vs H Q _ => ∃ (a : Addr) (o : List Nat) (k : Nat), vs = [.ref a, ni k, .str (S (Qn.help o k).ans)] ∧ H a = some (.tup (nis o)) ∧ Obx.IsOrd o ∧ 1 ≤ o.length ∧ o.length ≤ 40 ∧ 1 ≤ k ∧ k ≤ o.length ∧ ∀ H', Same H H' → Q (ni (Obx.need k (Obx.rings o))) H'
/-- the rows of the law -/
def rowsOf (o ops : List Nat) (k num : Nat) : List Qn := [.rings o, .find o ops, .need o k, .help o k, .gord o.length k num, .good o.length k, .group o.length k, .share (List.replicate o.length k), .share ops]
structure RowsOk (o ops : List Nat) (k num : Nat) : Prop where
  io : Obx.IsOrd o
  h1 : 1 ≤ o.length
  h40 : o.length ≤ 40
  hl : ops.length = o.length
  hx : ∀ x ∈ ops, x ≤ o.length
  hk1 : 1 ≤ k
  hk2 : k ≤ o.length
  hn : num < Obx.G k o.length
theorem RowsOk.ok {o ops : List Nat} {k num : Nat} (h : RowsOk o ops k num) : ∀ q ∈ rowsOf o ops k num, q.ok := by
  obtain ⟨io, h1, h40, hl, hx, hk1, hk2, hn⟩ := h
  intro q hq
  simp only [rowsOf, List.mem_cons, List.mem_nil_iff, or_false] at hq
  rcases hq with rfl | rfl | rfl | rfl | rfl | rfl | rfl | rfl | rfl
  · exact ⟨io, h1, h40⟩
  · exact ⟨io, h1, h40, hl, hx⟩
  · exact ⟨io, h1, h40, hk1, hk2⟩
  · exact ⟨io, h1, h40, hk1, hk2⟩
  · exact ⟨h1, h40, hk1, hk2, hn⟩
  · exact ⟨h1, h40, hk1, hk2⟩
  · exact ⟨h1, h40, hk1, hk2⟩
  · refine ⟨by rw [List.length_replicate]; exact h1, by rw [List.length_replicate]; exact h40, fun x hx => ?_⟩
    rw [List.length_replicate]
    have := List.eq_of_mem_replicate hx
    omega
  · exact ⟨by omega, by omega, by rw [hl]; exact hx⟩
def sp__law_right : Sp := fun vs H Q _ => ∃ (a b t : Addr) (o ops : List Nat) (k num : Nat), vs = [.ref a, .ref b, ni k, ni num, .ref t] ∧ H a = some (.tup (nis o)) ∧ H b = some (.tup (nis ops)) ∧ H t = some (.lst (txts ((rowsOf o ops k num).map Qn.ans))) ∧ RowsOk o ops k num ∧ ∀ H', Same H H' → Q (.bl true) H'
def sp_law (K : PySem.W.Frag) : Sp := fun vs H Q _ => ∃ (a : Addr) (ns : List Int), vs = [.ref a] ∧ SqL K H a (ns.map V.int) ∧ ns.length ≤ 63 ∧ (∀ z ∈ ns, Builtin.Int.intBits z ≤ 1048576) ∧ ∀ H', Same H H' → Q (.bl true) H'
/-! ### plain facts of the law -/
theorem share_alike (n k : Nat) (hn : 1 ≤ n) : mal (List.replicate n k) / gcdF (List.replicate n k) * Obx.fact n = Obx.G k n * (Obx.fact (List.replicate n k).length / gcdF (List.replicate n k)) := by
  have e1 : mal (List.replicate n k) = Obx.G k n := by
    show Obx.manyAll (sortN (List.replicate n k)) = _
    rw [sortN_alike, Obx.manyAll_alike]
  have e2 : gcdF (List.replicate n k) = Nat.gcd (Obx.fact n) (Obx.G k n) := by
    show Nat.gcd (Obx.fact (List.replicate n k).length) (mal (List.replicate n k)) = _
    rw [e1, List.length_replicate]
  rw [e1, e2, List.length_replicate]
  have d1 := Nat.gcd_dvd_left (Obx.fact n) (Obx.G k n)
  have d2 := Nat.gcd_dvd_right (Obx.fact n) (Obx.G k n)
  have hg : 0 < Nat.gcd (Obx.fact n) (Obx.G k n) := Nat.gcd_pos_of_pos_left _ (Obx.fact_pos n)
  generalize Nat.gcd (Obx.fact n) (Obx.G k n) = g at *
  obtain ⟨x, hx⟩ := d1
  obtain ⟨y, hy⟩ := d2
  rw [hx, hy, Nat.mul_div_cancel_left _ hg, Nat.mul_div_cancel_left _ hg, Nat.mul_comm g x, Nat.mul_comm g y, ← Nat.mul_assoc, Nat.mul_comm y x, Nat.mul_assoc, Nat.mul_comm x (y * g)]
theorem share_divides (ops : List Nat) : Obx.fact ops.length % (Obx.fact ops.length / gcdF ops) = 0 := by
  have d : gcdF ops ∣ Obx.fact ops.length := Nat.gcd_dvd_left _ _
  exact Nat.mod_eq_zero_of_dvd (Nat.div_dvd_of_dvd d)
theorem share_pos (ops : List Nat) : 0 < Obx.fact ops.length / gcdF ops := by
  have d : gcdF ops ∣ Obx.fact ops.length := Nat.gcd_dvd_left _ _
  exact Nat.div_pos (Nat.le_of_dvd (Obx.fact_pos _) d) (Nat.gcd_pos_of_pos_left _ (Obx.fact_pos _))
theorem dig10 : ∀ d, d < 10 → Unicode.isDigit (48 + d) = true := by decide +kernel
theorem isdigit_num (n : Nat) : Txt.isdigit (S (TL.numL n)) = true := by
  unfold Txt.isdigit
  rw [SX.S_len, Bool.and_eq_true]
  refine ⟨decide_eq_true (List.length_pos_iff.mpr (TL.numL_ne n)), ?_⟩
  show (TL.numL n).toArray.all Unicode.isDigit = true
  rw [List.all_toArray, List.all_eq_true]
  intro c hc
  have hd := TL.numL_digits n c hc
  have := dig10 (c - 48) (by omega)
  rwa [show 48 + (c - 48) = c by omega] at this
theorem SqLsame {K : PySem.W.Frag} {H H' : Hp} {a : Addr} {xs : List V} (s : Same H H') (h : SqL K H a xs) : SqL K H' a xs := by
  rcases h with (h | ⟨o, h⟩) | h
  · exact .inl (.inl (s _ _ h))
  · exact .inl (.inr ⟨o, s _ _ h⟩)
  · exact .inr h
theorem bits_lt {z : Int} (h : Builtin.Int.intBits z ≤ 1048576) : z.natAbs < 2 ^ 1048577 := by
  unfold Builtin.Int.intBits at h
  by_cases h0 : z = 0
  · subst h0
    exact Nat.two_pow_pos _
  · have h1 : (z == 0) = false := by simpa using h0
    rw [h1] at h
    have h2 : z.natAbs.log2 + 1 ≤ 1048576 := h
    exact Nat.lt_of_lt_of_le Nat.lt_log2_self (Nat.pow_le_pow_right (by decide) (by omega))
section
variable {H : Hp} {Q : VK} {K : PySem.W.Frag} {p : Addr}
theorem r_modI {c : Int} {b : Nat} (h0 : 0 < b) (q : ∀ m : Nat, m < b → Q (ni m) H) : rI (fun _ j => 0 < j) (fun i j => .int (i % j)) (.int c) (ni b) H Q := by
  refine ⟨c, b, rfl, rfl, Int.natCast_pos.mpr h0, ?_⟩
  have h1 := Int.emod_nonneg c (show (b : Int) ≠ 0 by omega)
  have h2 := Int.emod_lt_of_pos c (show (0 : Int) < b by omega)
  have e : c % (b : Int) = (((c % (b : Int)).toNat : Nat) : Int) := by omega
  show Q (V.int (c % (b : Int))) H
  rw [e]
  exact q _ (by omega)
theorem r_divI {c : Int} {b : Nat} (h0 : 0 < b) (hb : b < 2 ^ 600) (q : ∀ c' : Int, Q (.int c') H) : rI CDivW (fun i j => .int (i / j)) (.int c) (ni b) H Q :=
  ⟨c, b, rfl, rfl, wide_div (b := 600) (Int.natCast_pos.mpr h0) (by rw [Int.natAbs_natCast]; exact hb) (by decide) (by decide), q _⟩
theorem r_insert {l : List Nat} {i y : Nat} (h : H p = some (.lst (nis l))) (hz : l.length ≤ 1000) (hi : i ≤ 1000) (q : ∀ H', (∀ b, b ≠ p → H' b = H b) → H' p = some (.lst (nis (l.take i ++ [y] ++ l.drop i))) → Q .non H') : rInsert (.ref p) [ni i, ni y] H Q := by
  refine ⟨p, nis l, (i : Int), ni y, rfl, rfl, h, smaller (by rw [nis_len]; omega), by omega, by omega, q _ (fun b hb => upd_ne hb) ?_⟩
  rw [upd_same, Int.toNat_natCast]
  show _ = some (HO.lst ((l.take i ++ [y] ++ l.drop i).map ni))
  rw [List.map_append, List.map_append, List.map_take, List.map_drop]
  rfl
theorem r_intN {n : Nat} (h : n < 2 ^ 600) (q : Q (ni n) H) : rIntStr [.str (S (TL.numL n))] H Q := by
  have := numL200 h
  refine ⟨S (TL.numL n), n, rfl, ?_, by rw [SX.S_len]; omega, q⟩
  rw [← SX.num_S]
  exact TL.int_num (by omega)
theorem r_isdig {n : Nat} (q : Q (.bl true) H) : rIsdigit (.str (S (TL.numL n))) [] H Q := ⟨S (TL.numL n), rfl, rfl, trivial, by rw [isdigit_num]; exact q⟩
theorem r_ixG {xs : List V} {j : Nat} {v : V} (h : H p = some (.lst xs)) (hv : xs[j]? = some v) (q : Q v H) : rIxL K (.ref p) (ni j) H Q := r_ixL h (at_n hv) q
end
end
local macro_rules | `(tactic| walk_at "go") => `(tactic| (repeat (first
  | with_reducible refine r_seq ?_
  | with_reducible refine r_asg ?_
  | with_reducible refine r_name ?_
  | with_reducible refine r_ret ?_
  | with_reducible refine r_drop ?_
  | with_reducible refine r_next ?_
  | with_reducible refine r_ifs ?_
  | with_reducible refine r_test ?_
  | with_reducible refine r_tB ?_
  | with_reducible refine r_and ?_
  | with_reducible refine r_or ?_
  | with_reducible refine r_not ?_
  | with_reducible refine r_var (by with_unfolding_all rfl) ?_
  | with_reducible refine r_c ?_
  | with_reducible refine r_op ?_
  | with_reducible refine r_un ?_
  | with_reducible refine r_U ?_
  | with_reducible refine r_I0 ?_
  | with_reducible refine r_nil ?_
  | with_reducible refine r_cons ?_
  | with_reducible refine r_cb ?_
  | with_reducible refine r_call ?_
  | with_reducible refine r_bl ?_
  | with_reducible refine r_lst ?_
  | with_reducible refine r_tup ?_
  | with_reducible refine r_lstRg ?_
  | with_reducible refine r_tupRg ?_
  | with_reducible refine r_bm ?_
  | with_reducible refine r_sub ?_
  | with_reducible refine r_m1 ?_
  | with_reducible refine r_m0 ?_
  | with_reducible refine r_isS ?_
  | with_reducible refine r_sl ?_
  | with_reducible refine r_part ?_
  | with_reducible refine r_nopart ?_
  | with_reducible refine r_partI ?_
  | with_reducible refine r_min2 ?_
  | with_reducible refine r_max2 ?_
  | with_reducible refine r_din ?_
  | with_reducible refine r_dnotin ?_
  | with_reducible refine r_dputs ?_
  | with_reducible refine r_for ?_
  | with_reducible refine r_lc ?_
  | with_reducible refine r_iList ?_
  | with_reducible refine r_iTup ?_
  | with_reducible refine r_iSeq ?_
  | with_reducible refine r_iRng1 ?_
  | with_reducible refine r_iRng2 ?_
  | with_reducible refine r_iEnum ?_
  | with_reducible refine r_iEnumT ?_
  | with_reducible refine r_par ?_
  | with_reducible refine r_pair ?_
  | with_reducible refine r_augS ?_
  | with_reducible refine r_aug (by with_unfolding_all rfl) ?_
  | with_reducible refine r_ipI ?_
  | with_reducible refine r_iRng3 ?_
  | with_reducible refine r_thru ?_
  | with_reducible refine r_andV ?_
  | with_reducible refine r_orV ?_
  | with_reducible refine r_chain ?_
  | with_reducible refine r_iStr ?_
  | with_reducible refine r_isS ?_
  | with_reducible refine r_js ?_
  | with_reducible refine r_js0 ?_
  | with_reducible refine r_fmt ?_)))
section
variable {P : Program} {w : World} {K : PySem.W.Frag} {mg : Str → Option Value} {base : Heap}
/-! ### ring_from -/
theorem ok_ring_from {f : Addr} {fd : FuncData} (F : FnP K "ring_from" sring_from f fd) (hb_tuple : mg "tuple" = none) : FnOk P w K mg base CX0 1 f fd ["order", "box"] sp_ring_from := by
  have sc : FnScope ["order", "box", "ring"] ["order", "box"] (defScope sring_from) := ⟨rfl, rfl, rfl, by decide +kernel, rfl, by decide +kernel, by decide +kernel⟩
  refine F.ok sc (fun vs H Q E h => by (obtain ⟨_, _, _, rfl, _⟩ := h; rfl)) (fun cdv A outer s H vs Q E hr h => ?_)

  obtain ⟨a, o, b, rfl, ho, io, hb, hl, k⟩ := h
  refine ⟨_, PSs.nox (pss_cons (ps_set (i := 2) sc.nd rfl (Or.inl rfl) (pe_lst (pa_cons (pv 1) pa_nil)))
      (pss_cons (ps_while PassesOwn.never (pt_cmpR op_ne (pe_ix (k_ixT (K := K) rfl) (pv 0) (pe_ix (k_ixL (K := K) rfl) (pv 2) (pe_un un_neg pe_int) (fun _ _ => rfl)) (fun _ _ => rfl)) (pv 1) (nomark _))
      (pss_one (ps_expr (k_bm (K := K) rfl PySem.F.plainAttrs_list PySem.F.slot_list_append PySem.F.type_list_append mt_append (pv 2) (pa_cons (pe_ix (k_ixT (K := K) rfl) (pv 0) (pe_ix (k_ixL (K := K) rfl) (pv 2) (pe_un un_neg pe_int) (fun _ _ => rfl)) (fun _ _ => rfl)) pa_nil)))))
      (pss_one (ps_ret (pe_callTy (k_tupOf (K := K) rfl) (by rfl) hb_tuple (by decide +kernel) (pa_cons (pv 2) pa_nil)))))), ?_⟩
  walk_at "go"
  refine new_lst (by show 1 ≤ sizeLine; decide) fun p H1 np s1 hp => ?_
  walk_at "go"
  refine ⟨fun m σ H' => ∃ pre c, σ = [some (.ref a), some (ni b), some (.ref p)] ∧ H' p = some (.lst (nis (pre ++ [c]))) ∧ pre ++ Obx.ringGo o b m c = Obx.ring o b ∧ Obx.Ends o b m c ∧ c < o.length ∧ Same H H' ∧ pre.length + m ≤ 60,
    ⟨o.length, [], b, rfl, hp, rfl, Obx.ends_ring io hb, hb, s1, by simpa using hl⟩, ?_⟩
  rintro m σ H2 ⟨pre, c, rfl, hp2, e, en, hc, s2, hz⟩
  walk_at "go"
  refine r_ixL hp2 (nis_last _ _) ?_
  refine r_ixT (s2 _ _ ho) (at_n (nis_nx hc)) ?_
  walk_at "go"
  refine r_ne rfl ?_
  walk_at "go"
  refine ifN (fun hn => ?_) (fun he => ?_)
  · have hn' : ¬ Obx.nx o c = b := fun z => hn (by rw [z])
    cases m with
    | zero => exact absurd en hn'
    | succ m =>
      refine ⟨_, fun σ' H' hN => hN, ?_⟩
      walk_at "go"
      refine r_bmL hp2 ?_
      walk_at "go"
      refine r_ixL hp2 (nis_last _ _) ?_
      refine r_ixT (s2 _ _ ho) (at_n (nis_nx hc)) ?_
      walk_at "go"
      refine r_app hp2 (smaller (by rw [nis_len, List.length_append, List.length_singleton]; omega)) fun H3 b3 hp3 => ?_
      refine ⟨m, Nat.lt_succ_self m, pre ++ [c], Obx.nx o c, rfl, ?_, ?_, en.resolve_left hn', io.lt c hc, but_same s2 np b3, ?_⟩
      · rw [hp3, nis_app (pre ++ [c])]
        rfl
      · rw [← e]
        show _ = pre ++ (if Obx.nx o c = b then [c] else c :: Obx.ringGo o b m (Obx.nx o c))
        rw [if_neg hn', List.append_assoc]
        rfl
      · rw [List.length_append, List.length_singleton]
        omega
  · have he' : Obx.nx o c = b := ni_inj he
    walk_at "go"
    refine r_tupL hp2 fun q H3 nq s3 hq => ?_
    refine k q H3 (s2.free nq) (s2.trans s3) ?_
    rw [hq, ← e]
    have : Obx.ringGo o b m c = [c] := by
      cases m with
      | zero => rfl
      | succ m =>
        show (if Obx.nx o c = b then [c] else c :: Obx.ringGo o b m (Obx.nx o c)) = _
        rw [if_pos he']
    rw [this]
/-! ### is_each_once -/
theorem ok_is_each_once {f : Addr} {fd : FuncData} (F : FnP K "is_each_once" sis_each_once f fd) {t_MOST_BOXES : Tok} (hc_MOST_BOXES : mg "MOST_BOXES" = some (.int 60 t_MOST_BOXES)) (hb_len : mg "len" = none) (hb_list : mg "list" = none) (hb_range : mg "range" = none) (hb_sorted : mg "sorted" = none) : FnOk P w K mg base CX0 1 f fd ["numbers"] sp_is_each_once := by
  have sc : FnScope ["numbers"] ["numbers"] (defScope sis_each_once) := ⟨rfl, rfl, rfl, by decide +kernel, rfl, by decide +kernel, by decide +kernel⟩
  refine F.ok sc (fun vs H Q E h => by (obtain ⟨_, _, rfl, _⟩ := h; rfl)) (fun cdv A outer s H vs Q E hr h => ?_)
  have hu64 := hu64_of hr

  obtain ⟨a, l, rfl, ha, hp, h1, h60, k⟩ := h
  refine ⟨_, PSs.nox (pss_one (ps_ret (pe_and (pe_chain op_le op_le pe_int (pe_callB (k_len (K := K) rfl) (by rfl) hb_len PySem.boot_len (pa_cons (pv 0) pa_nil)) (pe_glob (v := .int 60) rfl hc_MOST_BOXES ⟨_, rfl⟩)) (pe_one (pe_cmpR (k_eqD (K := K) rfl hu64) (pe_callB (k_sortedI (K := K) rfl) (by rfl) hb_sorted (by decide +kernel) (pa_cons (pv 0) pa_nil)) (pe_listRg rfl (by rfl) hb_list (prg_1 (by rfl) hb_range (pe_callB (k_len (K := K) rfl) (by rfl) hb_len PySem.boot_len (pa_cons (pv 0) pa_nil)))) (nomark _)))))), ?_⟩
  walk_at "go"
  refine r_lenL ha ?_
  walk_at "go"
  rw [nis_len]
  refine ifDT (by omega) ?_
  walk_at "go"
  refine ifDT (by omega) ?_
  walk_at "go"
  refine r_sortL ha (range_sorted l.length) hp.symm fun p H1 np s1 h1' => ?_
  walk_at "go"
  refine r_lenL (s1 _ _ ha) ?_
  rw [nis_len]
  refine r_lstRgN (by omega) fun q H2 nq s2 h2 => ?_
  refine r_eqLL (s2 _ _ h1') h2 ?_
  rw [decide_eq_true rfl]
  exact k _ (s1.trans s2)
/-! ### exchanged -/
theorem ok_exchanged {f : Addr} {fd : FuncData} (F : FnP K "exchanged" sexchanged f fd) (hb_len : mg "len" = none) (hb_list : mg "list" = none) (hb_max : mg "max" = none) (hb_min : mg "min" = none) (hb_tuple : mg "tuple" = none) : FnOk P w K mg base CX0 1 f fd ["order", "one", "other"] sp_exchanged := by
  have sc : FnScope ["order", "one", "other", "names"] ["order", "one", "other"] (defScope sexchanged) := ⟨rfl, rfl, rfl, by decide +kernel, rfl, by decide +kernel, by decide +kernel⟩
  refine F.ok sc (fun vs H Q E h => by (obtain ⟨_, _, _, _, rfl, _⟩ := h; rfl)) (fun cdv A outer s H vs Q E hr h => ?_)

  obtain ⟨a, o, u, v, rfl, ha, huv, hu', hv, hl, k⟩ := h
  refine ⟨_, PSs.nox (pss_cons (ps_if (PW.pt (pw_or (pt_cmpR op_eq (pv 1) (pv 2) (nomark _)) (pw_or (pt_cmpR op_lt (pe_callB (call_min2N rfl) (by rfl) hb_min (by decide +kernel) (pa_cons (pv 1) (pa_cons (pv 2) pa_nil))) pe_int (nomark _)) (pw_or1 (pt_cmpR op_ge (pe_callB (call_max2N rfl) (by rfl) hb_max (by decide +kernel) (pa_cons (pv 1) (pa_cons (pv 2) pa_nil))) (pe_callB (k_len (K := K) rfl) (by rfl) hb_len PySem.boot_len (pa_cons (pv 0) pa_nil)) (nomark _)))))) (pss_one ps_never) pss_nil)
      (pss_cons (ps_set (i := 3) sc.nd rfl (Or.inl rfl) (pe_callTy (k_lstOf (K := K) rfl) (by rfl) hb_list (by decide +kernel) (pa_cons (pv 0) pa_nil)))
      (pss_cons (ps_asg (pe_ix (k_ixT (K := K) rfl) (pv 0) (pv 2) (fun _ _ => rfl)) (pg_sub (pv 3) (pv 1) set_list))
      (pss_cons (ps_asg (pe_ix (k_ixT (K := K) rfl) (pv 0) (pv 1) (fun _ _ => rfl)) (pg_sub (pv 3) (pv 2) set_list))
      (pss_one (ps_ret (pe_callTy (k_tupOf (K := K) rfl) (by rfl) hb_tuple (by decide +kernel) (pa_cons (pv 3) pa_nil)))))))), ?_⟩
  walk_at "go"
  refine r_eq rfl ?_
  walk_at "go"
  refine ifDF (fun z => huv (ni_inj z)) ?_
  walk_at "go"
  refine ifDF (by omega) ?_
  walk_at "go"
  refine r_lenT ha ?_
  rw [nis_len]
  walk_at "go"
  refine ifDF (by omega) ?_
  walk_at "go"
  refine r_lstOf (.inr ha) fun p H1 np s1 hp => ?_
  walk_at "go"
  refine r_ixT (s1 _ _ ha) (at_n (nis_nx hv)) ?_
  walk_at "go"
  refine r_setL hp (ixN_n (by rw [nis_len]; exact hu')) fun H2 b2 hp2 => ?_
  rw [nis_set] at hp2
  have s2 : Same H H2 := but_same s1 np b2
  walk_at "go"
  refine r_ixT (s2 _ _ ha) (at_n (nis_nx hu')) ?_
  walk_at "go"
  refine r_setL hp2 (ixN_n (by rw [nis_len, List.length_set]; exact hv)) fun H3 b3 hp3 => ?_
  rw [nis_set] at hp3
  have s3 : Same H H3 := but_same s2 np b3
  walk_at "go"
  refine r_tupL hp3 fun q H4 nq s4 hq => ?_
  exact k q H4 (s3.free nq) (s3.trans s4) hq
/-! ### rings_of -/
theorem ok_rings_of {f : Addr} {fd : FuncData} (F : FnP K "rings_of" srings_of f fd) (hd_ring_from : Dc P w K mg base "ring_from" ["order", "box"] 1 sp_ring_from) (hb_len : mg "len" = none) (hb_range : mg "range" = none) : FnOk P w K mg base CX0 2 f fd ["order"] sp_rings_of := by
  have sc : FnScope ["order", "found", "met", "box", "ring", "other"] ["order"] (defScope srings_of) := ⟨rfl, rfl, rfl, by decide +kernel, rfl, by decide +kernel, by decide +kernel⟩
  refine F.ok sc (fun vs H Q E h => by (obtain ⟨_, _, rfl, _⟩ := h; rfl)) (fun cdv A outer s H vs Q E hr h => ?_)
  have hu := hu_of hr

  obtain ⟨a, o, rfl, ha, io, hl, k⟩ := h
  refine ⟨_, PSs.nox (pss_cons (ps_set (i := 1) sc.nd rfl (Or.inl rfl) (pe_lst pa_nil))
      (pss_cons (ps_set (i := 2) sc.nd rfl (Or.inl rfl) pe_dnewK)
      (pss_cons (ps_for PassesOwn.never rfl (pi_range1 rfl hb_range (pa_cons (pe_callB (k_len (K := K) rfl) (by rfl) hb_len PySem.boot_len (pa_cons (pv 0) pa_nil)) pa_nil)) (pg_name (i := 3) sc.nd rfl (Or.inl rfl))
      (pss_one (ps_if (pt_cmp (pc_dnotin hu (pv 3) (pv 2))) (pss_cons (ps_set (i := 4) sc.nd rfl (Or.inl rfl) (pcall hd_ring_from hr rfl (pa_cons (pv 0) (pa_cons (pv 3) pa_nil))))
      (pss_cons (ps_for PassesOwn.never rfl (k_tup (K := K) rfl (pv 4)) (pg_name (i := 5) sc.nd rfl (Or.inl rfl))
      (pss_one (ps_dput hu (pv 2) (pv 5) pe_bl rfl)))
      (pss_one (ps_expr (k_bm (K := K) rfl PySem.F.plainAttrs_list PySem.F.slot_list_append PySem.F.type_list_append mt_append (pv 1) (pa_cons (pv 4) pa_nil)))))) pss_nil)))
      (pss_one (ps_ret (pv 1)))))), ?_⟩
  walk_at "go"
  refine new_lst (by show 0 ≤ sizeLine; decide) fun fl H1 nfl s1 hfl => ?_
  walk_at "go"
  refine r_dnew fun m H2 nm s2 hm => ?_
  have sa : Same H H2 := s1.trans s2
  have nm0 : H m = none := s1.free nm
  have hfl2 := s2 _ _ hfl
  have mne : fl ≠ m := ne_of_none hfl nm
  walk_at "go"
  refine r_lenT (sa _ _ ha) ?_
  rw [nis_len]
  refine ⟨_, rfl, by omega, by omega, for_range (lo := 0) (n := o.length) (fun i σ H' => ∃ x3 x4 x5 as ds M kvs, σ = [some (.ref a), some (.ref fl), some (.ref m), x3, x4, x5] ∧ Same H H' ∧ H' fl = some (.lst (refs as)) ∧ RT H' as ds ∧ H' m = some (.dK kvs) ∧
    ds ++ Obx.ringsGo o ((List.range o.length).drop i) M = Obx.rings o ∧ (∀ b : Nat, (valV kvs (.inl (b : Int))).isSome = decide (b ∈ M)) ∧ kvs.length ≤ 61 * i ∧ as.length ≤ i)
    ⟨none, none, none, [], [], [], [], rfl, sa, hfl2, .nil, hm, rfl, fun b => rfl, Nat.le_refl _, Nat.le_refl _⟩ ?_ ?_⟩
  · rintro i σ H3 hi ⟨x3, x4, x5, as, ds, M, kvs, rfl, s3, hf3, rt, hm3, e, hk, hkl, hal⟩
    have hdrop : (List.range o.length).drop i = i :: (List.range o.length).drop (i + 1) := by
      rw [List.drop_eq_getElem_cons (by simpa using hi)]
      simp
    rw [hdrop] at e
    have ei : V.int (0 + (i : Int)) = ni i := by rw [Int.zero_add]
    rw [ei]
    walk_at "go"
    refine r_dget hm3 ?_
    walk_at "go"
    rw [hk i]
    refine ifN (fun hn => ?_) (fun hy => ?_)
    · have e' : ds ++ Obx.ring o i :: Obx.ringsGo o ((List.range o.length).drop (i + 1)) (M ++ Obx.ring o i) = Obx.rings o := by
        rw [← e]
        show _ = ds ++ (if i ∈ M then _ else _)
        rw [if_neg hn]
      walk_at "go"
      refine ⟨a, o, i, rfl, s3 _ _ ha, io, hi, hl, fun q H4 nq s4 hq => ?_⟩
      walk_at "go"
      have hf4 := s4 _ _ hf3
      have hm4 := s4 _ _ hm3
      have rt4 := rt.same s4
      have qm : q ≠ m := (ne_of_none hm3 nq).symm
      have qf : q ≠ fl := (ne_of_none hf3 nq).symm
      refine ⟨q, rfl, ⟨_, SqT.of hq⟩, for_tup (K := K) (a := q) (xs := nis (Obx.ring o i)) (fun j σ H' => ∃ x5 kvs, σ = [some (.ref a), some (.ref fl), some (.ref m), some (ni i), some (.ref q), x5] ∧ Same H H' ∧ H' fl = some (.lst (refs as)) ∧ RT H' as ds ∧ H' q = some (.tup (nis (Obx.ring o i))) ∧ H' m = some (.dK kvs) ∧
        (∀ b : Nat, (valV kvs (.inl (b : Int))).isSome = decide (b ∈ M ++ (Obx.ring o i).take j)) ∧ kvs.length ≤ 61 * i + j) ⟨x5, kvs, rfl, s3.trans s4, hf4, rt4, hq, hm4, fun b => by rw [hk b, List.take_zero, List.append_nil], by omega⟩
        (fun j σ H' _ ⟨_, _, _, _, _, _, h6, _⟩ => SqT.of h6) ?_ ?_⟩
      · rintro j x σ H5 hj ⟨x5, kvs5, rfl, s5, hf5, rt5, hq5, hm5, hk5, hkl5⟩
        obtain ⟨hjl, rfl⟩ := of_nis hj
        have hrl : (Obx.ring o i).length ≤ o.length + 1 := Obx.ringGo_length o i _ i
        walk_at "go"
        refine r_dput hm5 (smaller (by omega)) fun H6 b6 hm6 => ?_
        refine ⟨_, _, rfl, but_same s5 nm0 b6, but_at b6 hf5 mne, ⟨rt5.len, fun i' a' r' h1 h2 => ?_⟩, but_at b6 hq5 qm, hm6, fun b => ?_, ?_⟩
        · have e5 := rt5.at_ i' a' r' h1 h2
          exact but_at b6 e5 (fun z => by subst z; rw [hm5] at e5; cases e5)
        · rw [valV_put]
          have e1 : decide (b ∈ M ++ (Obx.ring o i).take (j + 1)) = (decide (b ∈ M ++ (Obx.ring o i).take j) || decide (b = (Obx.ring o i)[j])) := by
            rw [← Bool.decide_or]
            congr 1
            rw [List.mem_append, List.mem_append, mem_take_succ hjl, or_assoc]
          rw [e1]
          by_cases c : b = (Obx.ring o i)[j]
          · subst c
            rw [if_pos rfl, decide_eq_true rfl, Bool.or_true]
            rfl
          · rw [if_neg (fun z => c (by injection z with z; exact Int.ofNat.inj z)), hk5 b, decide_eq_false c, Bool.or_false]
        · have : (putK kvs5 (.inl ((Obx.ring o i)[j] : Int) : Key) (V.bl true)).length ≤ kvs5.length + 1 := by
            unfold putK
            split
            · rw [List.length_map]; omega
            · rw [List.length_append]; exact Nat.le_refl _
          omega
      · rintro σ H5 ⟨x5, kvs5, rfl, s5, hf5, rt5, hq5, hm5, hk5, hkl5⟩
        walk_at "go"
        refine r_bmL hf5 ?_
        walk_at "go"
        refine r_app hf5 (smaller (by rw [List.length_map]; omega)) fun H6 b6 hf6 => ?_
        have hrl : (Obx.ring o i).length ≤ o.length + 1 := Obx.ringGo_length o i _ i
        refine ⟨_, _, _, as ++ [q], ds ++ [Obx.ring o i], M ++ Obx.ring o i, kvs5, rfl, but_same s5 nfl b6, ?_, (rt5.but hf5 b6).snoc (but_at b6 hq5 qf), but_at b6 hm5 mne.symm, ?_, fun b => ?_, ?_, ?_⟩
        · rw [hf6]
          show _ = some (HO.lst ((as ++ [q]).map V.ref))
          rw [List.map_append]
          rfl
        · rw [List.append_assoc]
          exact e'
        · rw [hk5 b, nis_len, List.take_length]
        · rw [nis_len] at hkl5
          omega
        · rw [List.length_append]
          exact Nat.succ_le_succ hal
    · walk_at "go"
      refine ⟨_, _, _, as, ds, M, kvs, rfl, s3, hf3, rt, hm3, ?_, hk, by omega, by omega⟩
      rw [← e]
      show _ = ds ++ (if i ∈ M then _ else _)
      rw [if_pos hy]
  · rintro σ H3 ⟨x3, x4, x5, as, ds, M, kvs, rfl, s3, hf3, rt, hm3, e, hk, hkl, hal⟩
    walk_at "go"
    refine k fl H3 nfl s3 ⟨as, hf3, ?_⟩
    have : (List.range o.length).drop o.length = [] := List.drop_eq_nil_of_le (by simp)
    rw [this] at e
    have e2 : ds = Obx.rings o := by
      rw [← e]
      show ds = ds ++ []
      rw [List.append_nil]
    rw [← e2]
    exact rt
/-! ### order_by -/
theorem ok_order_by {f : Addr} {fd : FuncData} (F : FnP K "order_by" sorder_by f fd) (hd_is_each_once : Dc P w K mg base "is_each_once" ["numbers"] 1 sp_is_each_once) (hb_len : mg "len" = none) (hb_range : mg "range" = none) (hb_tuple : mg "tuple" = none) : FnOk P w K mg base CX0 2 f fd ["rings"] sp_order_by := by
  have sc : FnScope ["rings", "boxes", "ring", "names", "k"] ["rings"] (defScope sorder_by) := ⟨rfl, rfl, rfl, by decide +kernel, rfl, by decide +kernel, by decide +kernel⟩
  refine F.ok sc (fun vs H Q E h => by (obtain ⟨_, _, _, rfl, _⟩ := h; rfl)) (fun cdv A outer s H vs Q E hr h => ?_)

  obtain ⟨p, n, rs, rfl, ⟨as, hp, rq⟩, cov, h1, h60, k⟩ := h
  refine ⟨_, PSs.nox (pss_cons (ps_set (i := 1) sc.nd rfl (Or.inl rfl) (pe_lst pa_nil))
      (pss_cons (ps_for PassesOwn.never rfl (k_list (K := K) rfl (pv 0)) (pg_name (i := 2) sc.nd rfl (Or.inl rfl))
      (pss_one (ps_expr (k_bm (K := K) rfl PySem.F.plainAttrs_list PySem.F.slot_list_extend PySem.F.type_list_extend mt_extS (pv 1) (pa_cons (pv 2) pa_nil)))))
      (pss_cons (ps_if (PW.pt (pw_or (pt_not (pt_val (pcall hd_is_each_once hr rfl (pa_cons (pv 1) pa_nil)))) (pw_or1 (pt_cmpR (k_in (K := K) rfl) pe_int (pe_lc (own := [("ring", 2)]) rfl sc.nd (k_list (K := K) rfl (pv 0)) (blkOk_by (N := ["rings", "boxes", "ring", "names", "k"]) (sc := defScope sorder_by) (by decide +kernel)) (fun _ _ _ _ _ => (pg_name (i := 2) sc.nd rfl (Or.inl rfl))) (fun _ _ _ _ _ => pts_nil) (fun _ _ _ _ _ => (pe_callB (k_len (K := K) rfl) (by rfl) hb_len PySem.boot_len (pa_cons (pv 2) pa_nil)))) (by rfl))))) (pss_one ps_never) pss_nil)
      (pss_cons (ps_set (i := 3) sc.nd rfl (Or.inl rfl) (pe_op op_rep (pe_lst (pa_cons pe_int pa_nil)) (pe_callB (k_len (K := K) rfl) (by rfl) hb_len PySem.boot_len (pa_cons (pv 1) pa_nil))))
      (pss_cons (ps_for PassesOwn.never rfl (k_list (K := K) rfl (pv 0)) (pg_name (i := 2) sc.nd rfl (Or.inl rfl))
      (pss_one (ps_for PassesOwn.never rfl (pi_range1 rfl hb_range (pa_cons (pe_callB (k_len (K := K) rfl) (by rfl) hb_len PySem.boot_len (pa_cons (pv 2) pa_nil)) pa_nil)) (pg_name (i := 4) sc.nd rfl (Or.inl rfl))
      (pss_one (ps_asg (pe_ix (k_ixQ (K := K) rfl) (pv 2) (pv 4) (fun _ _ => rfl)) (pg_sub (pv 3) (pe_ix (k_ixQ (K := K) rfl) (pv 2) (pe_op op_sub (pv 4) pe_int) (fun _ _ => rfl)) set_list))))))
      (pss_one (ps_ret (pe_callTy (k_tupOf (K := K) rfl) (by rfl) hb_tuple (by decide +kernel) (pa_cons (pv 3) pa_nil))))))))), ?_⟩
  have fll := cov.len
  have rlen : ∀ r ∈ rs, r.length ≤ n := fun r hr => by
    have := (List.sublist_flatten_of_mem hr).length_le
    omega
  have rsn : rs.length ≤ n := by
    have : ∀ (l : List (List Nat)), (∀ r ∈ l, r ≠ []) → l.length ≤ l.flatten.length := by
      intro l
      induction l with
      | nil => intro _; exact Nat.le_refl _
      | cons r l ih =>
        intro h
        have i1 := ih fun q hq => h q (List.mem_cons_of_mem _ hq)
        have i2 : r.length ≠ 0 := fun z => h r List.mem_cons_self (List.length_eq_zero_iff.mp z)
        rw [List.flatten_cons, List.length_append, List.length_cons]
        omega
    have := this rs cov.ne
    omega
  walk_at "go"
  refine new_lst (by show 0 ≤ sizeLine; decide) fun bl H1 nb s1 hbl => ?_
  walk_at "go"
  refine r_itl (s1 _ _ hp) ?_
  refine forL (xs := refs as) (fun i σ H' => ∃ x2 x3 x4, σ = [some (.ref p), some (.ref bl), x2, x3, x4] ∧ Same H H' ∧ H' bl = some (.lst (nis (rs.take i).flatten))) ⟨none, none, none, rfl, s1, hbl⟩
    (fun i σ H' _ ⟨_, _, _, _, s, _⟩ => s _ _ hp) ?_ ?_
  · rintro i x σ H2 hi ⟨x2, x3, x4, rfl, s2, hb2⟩
    rw [List.getElem?_map] at hi
    obtain ⟨q, hq, rfl⟩ := Option.map_eq_some_iff.mp hi
    have hil : i < rs.length := by rw [← rq.len]; exact (List.getElem?_eq_some_iff.mp hq).1
    have hr := rq.at_ i q rs[i] hq (List.getElem?_eq_getElem hil)
    have hle := flat_take hil
    rw [fll] at hle
    walk_at "go"
    refine r_bmL hb2 ?_
    walk_at "go"
    refine r_ext hb2 (hr.imp (s2 _ _) (s2 _ _)) (small (by rw [nis_len, nis_len]; omega)) fun H3 b3 hb3 => ?_
    refine ⟨_, _, _, rfl, but_same s2 nb b3, ?_⟩
    rw [hb3, take_succ hil, List.flatten_append, nis_app]
    simp
  · rintro σ H2 ⟨x2, x3, x4, rfl, s2, hb2⟩
    rw [List.length_map, rq.len, List.take_length] at hb2
    walk_at "go"
    refine ⟨bl, rs.flatten, rfl, hb2, by rw [fll]; exact cov.perm, by omega, by omega, fun H3 s3 => ?_⟩
    walk_at "go"
    refine iteF ?_
    walk_at "go"
    refine r_itl (s3 _ _ (s2 _ _ hp)) ?_
    refine lcL (xs := refs as) (fun i => ni ((rs.map List.length).getD i 0)) (s3 _ _ (s2 _ _ hp)) (by rw [List.length_map, rq.len]; omega) ?_ fun D H4 nD s4 hD => ?_
    · intro i x H4 R hi s4 kR
      rw [List.getElem?_map] at hi
      obtain ⟨q, hq, rfl⟩ := Option.map_eq_some_iff.mp hi
      have hil : i < rs.length := by rw [← rq.len]; exact (List.getElem?_eq_some_iff.mp hq).1
      have hr := rq.at_ i q rs[i] hq (List.getElem?_eq_getElem hil)
      have e : ((nis rs[i]).length : Int) = (((rs.map List.length).getD i 0 : Nat) : Int) := by
        rw [nis_len, List.getD_eq_getElem?_getD, List.getElem?_map, List.getElem?_eq_getElem hil]
        rfl
      walk_at "go"
      rcases hr with hr | hr
      · refine r_lenL (s4 _ _ (s3 _ _ (s2 _ _ hr))) ?_
        rw [e]
        exact kR H4 (Same.refl _)
      · refine r_lenT (s4 _ _ (s3 _ _ (s2 _ _ hr))) ?_
        rw [e]
        exact kR H4 (Same.refl _)
    · have eD : (List.range (refs as).length).map (fun i => ni ((rs.map List.length).getD i 0)) = nis (rs.map List.length) := by
        have : (refs as).length = (nis (rs.map List.length)).length := by rw [List.length_map, nis_len, List.length_map, rq.len]
        rw [this]
        refine range_map_get fun i hi => ?_
        rw [nis_len] at hi
        rw [List.getElem?_map, List.getD_eq_getElem?_getD, List.getElem?_eq_getElem hi]
        rfl
      rw [eD] at hD
      refine r_inL hD ?_
      have n0 : ¬ (0 ∈ rs.map List.length) := fun z => by
        obtain ⟨r, hr, e⟩ := List.mem_map.mp z
        exact cov.ne r hr (List.length_eq_zero_iff.mp e)
      walk_at "go"
      refine ifDF n0 ?_
      have s24 : Same H H4 := (s2.trans s3).trans s4
      have hb4 := s4 _ _ (s3 _ _ hb2)
      walk_at "go"
      refine new_lst (by show 1 ≤ sizeLine; decide) fun z H5 nz s5 hz => ?_
      walk_at "go"
      refine r_lenL (s5 _ _ hb4) ?_
      rw [nis_len, fll]
      refine r_rep1 hz (by omega) fun nl H6 nn s6 hn => ?_
      have nn0 : H nl = none := (s24.trans s5).free nn
      have s26 := (s24.trans s5).trans s6
      walk_at "go"
      refine r_itl (s26 _ _ hp) ?_
      refine forL (xs := refs as) (fun i σ H' => ∃ x2 x4, σ = [some (.ref p), some (.ref bl), x2, some (.ref nl), x4] ∧ Same H H' ∧ H' nl = some (.lst (nis (Obx.setAll (List.replicate n 0) ((rs.take i).flatMap Obx.pairs))))) ⟨_, _, rfl, s26, hn⟩
        (fun i σ H' _ ⟨_, _, _, s, _⟩ => s _ _ hp) ?_ ?_
      · rintro i x σ H7 hi ⟨y2, y4, rfl, s7, hn7⟩
        rw [List.getElem?_map] at hi
        obtain ⟨q, hq, rfl⟩ := Option.map_eq_some_iff.mp hi
        have hil : i < rs.length := by rw [← rq.len]; exact (List.getElem?_eq_some_iff.mp hq).1
        have hr := rq.at_ i q rs[i] hq (List.getElem?_eq_getElem hil)
        have hrn := rlen _ (List.getElem_mem hil)
        have hrm : ∀ x ∈ rs[i], x < n := fun x hx => by
          have := cov.perm.mem_iff.mp (List.mem_flatten.mpr ⟨rs[i], List.getElem_mem hil, hx⟩)
          simpa using this
        have hlenq : ∀ {H' : Hp} {Q : VK}, Same H H' → Q (ni rs[i].length) H' → rLenQ K [V.ref q] H' Q := fun {H' Q} s' hq' => by
          have e : ((nis rs[i]).length : Int) = (rs[i].length : Nat) := by rw [nis_len]
          rcases hr with hr | hr
          · refine r_lenL (s' _ _ hr) ?_
            rw [e]; exact hq'
          · refine r_lenT (s' _ _ hr) ?_
            rw [e]; exact hq'
        walk_at "go"
        refine hlenq s7 ?_
        walk_at "go"
        refine r_rng1 (by omega) ?_
        refine forR0 (n := rs[i].length) (fun j σ H' => ∃ x4, σ = [some (.ref p), some (.ref bl), some (.ref q), some (.ref nl), x4] ∧ Same H H' ∧ H' nl = some (.lst (nis (Obx.setAll (List.replicate n 0) ((rs.take i).flatMap Obx.pairs ++ (Obx.pairs rs[i]).take j))))) ⟨_, rfl, s7, by rw [List.take_zero, List.append_nil]; exact hn7⟩ ?_ ?_
        · rintro j σ H8 hj ⟨y4, rfl, s8, hn8⟩
          obtain ⟨u, hu1, hu2, hu3⟩ := pairs_at hj
          walk_at "go"
          refine r_ixQ (hr.imp (s8 _ _) (s8 _ _)) (at_n (nis_get hj)) ?_
          walk_at "go"
          refine r_ixQ (hr.imp (s8 _ _) (s8 _ _)) hu2 ?_
          refine r_setL hn8 (ixN_n (by rw [nis_len, Obx.setAll_length, List.length_replicate]; exact hrm u hu3)) fun H9 b9 hn9 => ?_
          refine ⟨_, rfl, but_same s8 nn0 b9, ?_⟩
          have hpl : j < (Obx.pairs rs[i]).length := by rw [pairs_length]; exact hj
          have hpg : (Obx.pairs rs[i])[j] = (u, rs[i][j]) := by
            rw [List.getElem?_eq_getElem hpl] at hu1
            exact Option.some.inj hu1
          rw [hn9, nis_set, take_succ hpl, hpg, ← List.append_assoc, Obx.setAll_append _ _ [(u, rs[i][j])]]
          rfl
        · rintro σ H8 ⟨y4, rfl, s8, hn8⟩
          refine ⟨_, _, rfl, s8, ?_⟩
          rw [hn8, take_succ hil, List.flatMap_append, ← pairs_length, List.take_length]
          simp
      · rintro σ H7 ⟨y2, y4, rfl, s7, hn7⟩
        rw [List.length_map, rq.len, List.take_length] at hn7
        walk_at "go"
        refine r_tupL hn7 fun q H8 nq s8 hq => ?_
        refine k q H8 (s7.free nq) (s7.trans s8) ?_
        rw [hq]
        unfold Obx.orderBy
        rw [fll]
end
section
variable {P : Program} {w : World} {K : PySem.W.Frag} {mg : Str → Option Value} {base : Heap}
theorem followGo_lt {o : List Nat} (io : Obx.IsOrd o) (p : Nat) : ∀ m b, b < o.length → ∀ x ∈ followGo o p m b, x < o.length
  | 0, b, hb => by simp [followGo]
  | m + 1, b, hb => by
    intro x hx
    have hx' : x ∈ (if Obx.nx o b = p then [b] else b :: followGo o p m (Obx.nx o b)) := hx
    by_cases c : Obx.nx o b = p
    · rw [if_pos c] at hx'
      have : x = b := by simpa using hx'
      omega
    · rw [if_neg c] at hx'
      rcases List.mem_cons.mp hx' with rfl | h
      · exact hb
      · exact followGo_lt io p m _ (io.lt b hb) x h
theorem followGo_len (o : List Nat) (p : Nat) : ∀ m b, (followGo o p m b).length ≤ m
  | 0, b => by simp [followGo]
  | m + 1, b => by
    show (if Obx.nx o b = p then [b] else b :: followGo o p m (Obx.nx o b)).length ≤ _
    have := followGo_len o p m (Obx.nx o b)
    split
    · simp
    · simp; omega
/-! ### look_at_openings, made_openings -/
theorem ok_look_at_openings {f : Addr} {fd : FuncData} (F : FnP K "look_at_openings" slook_at_openings f fd) {t_MOST_BOXES : Tok} (hc_MOST_BOXES : mg "MOST_BOXES" = some (.int 60 t_MOST_BOXES)) (hb_len : mg "len" = none) (hb_max : mg "max" = none) (hb_min : mg "min" = none) : FnOk P w K mg base CX0 1 f fd ["people", "numbers"] sp_look_at_openings := by
  have sc : FnScope ["people", "numbers"] ["people", "numbers"] (defScope slook_at_openings) := ⟨rfl, rfl, rfl, by decide +kernel, rfl, by decide +kernel, by decide +kernel⟩
  refine F.ok sc (fun vs H Q E h => by (obtain ⟨_, _, _, rfl, _⟩ := h; rfl)) (fun cdv A outer s H vs Q E hr h => ?_)

  obtain ⟨n, a, ops, rfl, ha, hl, h1, h60, hx, k⟩ := h
  refine ⟨_, PSs.nox (pss_cons (ps_if (PW.pt (pw_or (pt_cmpR op_ne (pe_callB (k_len (K := K) rfl) (by rfl) hb_len PySem.boot_len (pa_cons (pv 1) pa_nil)) (pv 0) (nomark _)) (pw_or (pt_cmpR op_lt (pv 0) pe_int (nomark _)) (pw_or1 (pt_cmpR op_gt (pv 0) (pe_glob (v := .int 60) rfl hc_MOST_BOXES ⟨_, rfl⟩) (nomark _)))))) (pss_one ps_never) pss_nil)
      (pss_one (ps_if (PW.pt (pw_or (pt_cmpR op_lt (pe_callB (k_minT (K := K) rfl rfl) (by rfl) hb_min (by decide +kernel) (pa_cons (pv 1) pa_nil)) pe_int (nomark _)) (pw_or1 (pt_cmpR op_gt (pe_callB (k_maxT (K := K) rfl rfl) (by rfl) hb_max (by decide +kernel) (pa_cons (pv 1) pa_nil)) (pv 0) (nomark _))))) (pss_one ps_never) pss_nil))), ?_⟩
  walk_at "go"
  refine r_lenT ha ?_
  rw [nis_len, hl]
  walk_at "go"
  refine r_ne rfl ?_
  walk_at "go"
  refine ifNF rfl ?_
  walk_at "go"
  refine ifDF (by omega) ?_
  walk_at "go"
  refine ifDF (by omega) ?_
  walk_at "go"
  refine r_minT ha (by omega) fun m hm _ => ?_
  walk_at "go"
  refine ifDF (by omega) ?_
  walk_at "go"
  refine r_maxT ha (by omega) fun m hm _ => ?_
  walk_at "go"
  have := hx m hm
  refine ifDF (by omega) ?_
  walk_at "go"
  exact k H (Same.refl H)
theorem ok_made_openings {f : Addr} {fd : FuncData} (F : FnP K "made_openings" smade_openings f fd) (hd_look_at_openings : Dc P w K mg base "look_at_openings" ["people", "numbers"] 1 sp_look_at_openings) (hb_tuple : mg "tuple" = none) : FnOk P w K mg base CX0 2 f fd ["people", "numbers"] sp_made_openings := by
  have sc : FnScope ["people", "numbers"] ["people", "numbers"] (defScope smade_openings) := ⟨rfl, rfl, rfl, by decide +kernel, rfl, by decide +kernel, by decide +kernel⟩
  refine F.ok sc (fun vs H Q E h => by (obtain ⟨_, _, _, rfl, _⟩ := h; rfl)) (fun cdv A outer s H vs Q E hr h => ?_)

  obtain ⟨n, a, ops, rfl, ha, hl, h1, h60, hx, k⟩ := h
  refine ⟨_, PSs.nox (pss_cons (ps_expr (pcall hd_look_at_openings hr rfl (pa_cons (pv 0) (pa_cons (pv 1) pa_nil))))
      (pss_one (ps_ret (pe_callTy (k_tupOf (K := K) rfl) (by rfl) hb_tuple (by decide +kernel) (pa_cons (pv 1) pa_nil))))), ?_⟩
  walk_at "go"
  refine ⟨n, a, ops, rfl, ha, hl, h1, h60, hx, fun H1 s1 => ?_⟩
  walk_at "go"
  refine r_tupT (s1 _ _ ha) ?_
  exact k H1 s1
/-! ### boxes_followed -/
theorem ok_boxes_followed {f : Addr} {fd : FuncData} (F : FnP K "boxes_followed" sboxes_followed f fd) (hb_len : mg "len" = none) : FnOk P w K mg base CX0 1 f fd ["order", "many", "person"] sp_boxes_followed := by
  have sc : FnScope ["order", "many", "person", "boxes", "box"] ["order", "many", "person"] (defScope sboxes_followed) := ⟨rfl, rfl, rfl, by decide +kernel, rfl, by decide +kernel, by decide +kernel⟩
  refine F.ok sc (fun vs H Q E h => by (obtain ⟨_, _, _, _, rfl, _⟩ := h; rfl)) (fun cdv A outer s H vs Q E hr h => ?_)
  have hu64 := hu64_of hr

  obtain ⟨a, M, p, o, rfl, ha, io, hp, hl, hM, k⟩ := h
  refine ⟨_, PSs.nox (pss_cons (ps_set (i := 3) sc.nd rfl (Or.inl rfl) (pe_lst pa_nil))
      (pss_cons (ps_set (i := 4) sc.nd rfl (Or.inl rfl) (pv 2))
      (pss_cons (ps_while PassesOwn.never (PW.pt (pw_and (pt_cmpR op_lt (pe_callB (k_len (K := K) rfl) (by rfl) hb_len PySem.boot_len (pa_cons (pv 3) pa_nil)) (pv 1) (nomark _)) (pw_and1 (PW.pt (pw_or (pt_cmpR (k_eqD (K := K) rfl hu64) (pv 3) (pe_lst pa_nil) (nomark _)) (pw_or1 (pt_cmpR op_ne (pe_ix (k_ixT (K := K) rfl) (pv 0) (pe_ix (k_ixL (K := K) rfl) (pv 3) (pe_un un_neg pe_int) (fun _ _ => rfl)) (fun _ _ => rfl)) (pv 2) (nomark _))))))))
      (pss_cons (ps_expr (k_bm (K := K) rfl PySem.F.plainAttrs_list PySem.F.slot_list_append PySem.F.type_list_append mt_append (pv 3) (pa_cons (pv 4) pa_nil)))
      (pss_one (ps_set (i := 4) sc.nd rfl (Or.inl rfl) (pe_ix (k_ixT (K := K) rfl) (pv 0) (pv 4) (fun _ _ => rfl))))))
      (pss_one (ps_ret (pv 3)))))), ?_⟩
  walk_at "go"
  refine new_lst (by show 0 ≤ sizeLine; decide) fun bl H1 nb s1 hb => ?_
  walk_at "go"
  refine ⟨fun m σ H' => ∃ pre box, σ = [some (.ref a), some (ni M), some (ni p), some (.ref bl), some (ni box)] ∧ Same H H' ∧ H' bl = some (.lst (nis pre)) ∧ pre.length + m = M ∧ box < o.length ∧
    ((pre = [] ∧ follow o M p = followGo o p m box) ∨ ∃ q c, pre = q ++ [c] ∧ c < o.length ∧ Obx.nx o c = box ∧ follow o M p = pre ++ (if box = p then [] else followGo o p m box)),
    ⟨M, [], p, rfl, s1, hb, by simp, hp, .inl ⟨rfl, rfl⟩⟩, ?_⟩
  rintro m σ H2 ⟨pre, box, rfl, s2, hb2, hlen, hbox, cs⟩
  have fin : (pre = follow o M p) → tRet (tVar 3) { nx := fun x H' => Q V.non H', rt := Q } [some (.ref a), some (ni M), some (ni p), some (.ref bl), some (ni box)] H2 := fun e => by
    walk_at "go"
    exact k bl H2 nb s2 (by rw [← e]; exact hb2)
  have step : ∀ H3, Same H2 H3 → 0 < m → follow o M p = pre ++ followGo o p m box → ∃ N : List (Option V) → Hp → Prop, (∀ σ' H', N σ' H' → ∃ m', m' < m ∧ ∃ pre box, σ' = [some (.ref a), some (ni M), some (ni p), some (.ref bl), some (ni box)] ∧ Same H H' ∧ H' bl = some (.lst (nis pre)) ∧ pre.length + m' = M ∧ box < o.length ∧
    ((pre = [] ∧ follow o M p = followGo o p m' box) ∨ ∃ q c, pre = q ++ [c] ∧ c < o.length ∧ Obx.nx o c = box ∧ follow o M p = pre ++ (if box = p then [] else followGo o p m' box))) ∧
    tSeq (tDrop (tBM K "list" rAppend (tVar 3) (tCons (tVar 4) tNil))) (tAsg (tOp (rIxT K) (tVar 0) (tVar 4)) (gName 4)) { nx := N, ct := N, bk := fun σ H => tRet (tVar 3) { nx := fun x H' => Q V.non H', rt := Q } σ H, rt := Q } [some (.ref a), some (ni M), some (ni p), some (.ref bl), some (ni box)] H3 := by
    intro H3 s3 hm e
    obtain ⟨m, rfl⟩ : ∃ n, m = n + 1 := ⟨m - 1, by omega⟩
    refine ⟨_, fun σ' H' hN => hN, ?_⟩
    walk_at "go"
    refine r_bmL (s3 _ _ hb2) ?_
    walk_at "go"
    refine r_app (s3 _ _ hb2) (smaller (by rw [nis_len]; omega)) fun H4 b4 hb4 => ?_
    have s4 : Same H H4 := but_same (s2.trans s3) nb b4
    walk_at "go"
    refine r_ixT (s4 _ _ ha) (at_n (nis_nx hbox)) ?_
    refine ⟨m, Nat.lt_succ_self m, pre ++ [box], Obx.nx o box, rfl, s4, by rw [hb4, nis_app]; rfl, by rw [List.length_append, List.length_singleton]; omega, io.lt _ hbox, .inr ⟨pre, box, rfl, hbox, rfl, ?_⟩⟩
    rw [e]
    show pre ++ (if Obx.nx o box = p then [box] else box :: followGo o p m (Obx.nx o box)) = _
    split
    · rw [List.append_nil]
    · rw [List.append_assoc]; rfl
  walk_at "go"
  refine r_lenL hb2 ?_
  rw [nis_len]
  walk_at "go"
  refine ifD (fun hlt => ?_) (fun hge => ?_)
  · walk_at "go"
    refine new_lst (by show 0 ≤ sizeLine; decide) fun z H3 nz s3 hz => ?_
    refine r_eqLL (l := pre) (m := []) (s3 _ _ hb2) hz ?_
    walk_at "go"
    refine ifD (fun he => ?_) (fun hne => ?_)
    · refine iteT (step H3 s3 (by omega) ?_)
      rcases cs with ⟨_, e⟩ | ⟨q, c, e, _⟩
      · rw [he]; exact e
      · rw [he] at e; simp at e
    · rcases cs with ⟨e, _⟩ | ⟨q, c, e, hc, hn, hf⟩
      · exact absurd e hne
      · walk_at "go"
        refine r_ixL (s3 _ _ hb2) (by rw [e]; exact nis_last q c) ?_
        refine r_ixT (s3 _ _ (s2 _ _ ha)) (at_n (nis_nx hc)) ?_
        rw [hn]
        walk_at "go"
        refine r_ne rfl ?_
        walk_at "go"
        refine ifN (fun hbp => ?_) (fun hbp => ?_)
        · refine step H3 s3 (by omega) ?_
          rw [hf, if_neg (fun z => hbp (by rw [z]))]
        · have hbp' : box = p := ni_inj hbp
          have s23 := s2.trans s3
          walk_at "go"
          refine k bl H3 nb s23 ?_
          rw [s3 _ _ hb2, hf, if_pos hbp', List.append_nil]
  · refine iteF ?_
    have hm0 : m = 0 := by omega
    subst hm0
    refine fin ?_
    rcases cs with ⟨e, hf⟩ | ⟨q, c, e, hc, hn, hf⟩
    · rw [hf, e]; rfl
    · rw [hf]
      split
      · rw [List.append_nil]
      · show pre = pre ++ []
        rw [List.append_nil]
/-! ### finders -/
theorem ok_finders {f : Addr} {fd : FuncData} (F : FnP K "finders" sfinders f fd) (hd_boxes_followed : Dc P w K mg base "boxes_followed" ["order", "many", "person"] 1 sp_boxes_followed) (hd_look_at_openings : Dc P w K mg base "look_at_openings" ["people", "numbers"] 1 sp_look_at_openings) (hb_len : mg "len" = none) (hb_range : mg "range" = none) (hb_tuple : mg "tuple" = none) : FnOk P w K mg base CX0 2 f fd ["order", "openings"] sp_finders := by
  have sc : FnScope ["order", "openings", "found", "person", "box"] ["order", "openings"] (defScope sfinders) := ⟨rfl, rfl, rfl, by decide +kernel, rfl, by decide +kernel, by decide +kernel⟩
  refine F.ok sc (fun vs H Q E h => by (obtain ⟨_, _, _, _, rfl, _⟩ := h; rfl)) (fun cdv A outer s H vs Q E hr h => ?_)

  obtain ⟨a, b, o, ops, rfl, ha, hb, io, hlo, h1, h60, hx, k⟩ := h
  refine ⟨_, PSs.nox (pss_cons (ps_expr (pcall hd_look_at_openings hr rfl (pa_cons (pe_callB (k_len (K := K) rfl) (by rfl) hb_len PySem.boot_len (pa_cons (pv 0) pa_nil)) (pa_cons (pv 1) pa_nil))))
      (pss_cons (ps_set (i := 2) sc.nd rfl (Or.inl rfl) (pe_lst pa_nil))
      (pss_cons (ps_for PassesOwn.never rfl (pi_range1 rfl hb_range (pa_cons (pe_callB (k_len (K := K) rfl) (by rfl) hb_len PySem.boot_len (pa_cons (pv 0) pa_nil)) pa_nil)) (pg_name (i := 3) sc.nd rfl (Or.inl rfl))
      (pss_one (ps_if (pt_cmpR (k_in (K := K) rfl) (pv 3) (pe_lc (own := [("box", 4)]) rfl sc.nd (k_list (K := K) rfl (pcall hd_boxes_followed hr rfl (pa_cons (pv 0) (pa_cons (pe_ix (k_ixT (K := K) rfl) (pv 1) (pv 3) (fun _ _ => rfl)) (pa_cons (pv 3) pa_nil))))) (blkOk_by (N := ["order", "openings", "found", "person", "box"]) (sc := defScope sfinders) (by decide +kernel)) (fun _ _ _ _ _ => (pg_name (i := 4) sc.nd rfl (Or.inl rfl))) (fun _ _ _ _ _ => pts_nil) (fun _ _ _ _ _ => (pe_ix (k_ixT (K := K) rfl) (pv 0) (pv 4) (fun _ _ => rfl)))) (by rfl)) (pss_one (ps_expr (k_bm (K := K) rfl PySem.F.plainAttrs_list PySem.F.slot_list_append PySem.F.type_list_append mt_append (pv 2) (pa_cons (pv 3) pa_nil)))) pss_nil)))
      (pss_one (ps_ret (pe_callTy (k_tupOf (K := K) rfl) (by rfl) hb_tuple (by decide +kernel) (pa_cons (pv 2) pa_nil))))))), ?_⟩
  walk_at "go"
  refine r_lenT ha ?_
  rw [nis_len]
  walk_at "go"
  refine ⟨o.length, b, ops, rfl, hb, hlo, h1, h60, hx, fun H1 s1 => ?_⟩
  walk_at "go"
  refine new_lst (by show 0 ≤ sizeLine; decide) fun fl H2 nf s2 hf => ?_
  have nf0 := s1.free nf
  have s02 := s1.trans s2
  walk_at "go"
  refine r_lenT (s02 _ _ ha) ?_
  rw [nis_len]
  walk_at "go"
  refine r_rng1 (by omega) ?_
  refine forR0 (n := o.length) (fun i σ H' => ∃ x3, σ = [some (.ref a), some (.ref b), some (.ref fl), x3, none] ∧ Same H H' ∧ H' fl = some (.lst (nis ((List.range i).filter (findB1 o ops))))) ⟨_, rfl, s02, hf⟩ ?_ ?_
  · rintro i σ H3 hi ⟨x3, rfl, s3, hf3⟩
    have hgi : ops.getD i 0 = ops[i] := by rw [List.getD_eq_getElem?_getD, List.getElem?_eq_getElem (by omega)]; rfl
    have hop : ops[i] ≤ o.length := hx _ (List.getElem_mem _)
    walk_at "go"
    refine r_ixT (s3 _ _ hb) (at_n (nis_get (by omega))) ?_
    walk_at "go"
    refine ⟨a, ops[i], i, o, rfl, s3 _ _ ha, io, hi, h60, by omega, fun q H4 nq s4 hq => ?_⟩
    walk_at "go"
    refine r_itl hq ?_
    have hfl : (follow o ops[i] i).length ≤ 60 := by
      have := followGo_len o i ops[i] i
      unfold follow
      omega
    have hflt : ∀ x ∈ follow o ops[i] i, x < o.length := followGo_lt io i _ i hi
    refine lcL (xs := nis (follow o ops[i] i)) (fun j => ni (Obx.nx o ((follow o ops[i] i).getD j 0))) hq (by rw [nis_len]; omega) ?_ fun D H5 nD s5 hD => ?_
    · intro j x H5 R hj s5 kR
      obtain ⟨hjl, rfl⟩ := of_nis hj
      walk_at "go"
      refine r_ixT (s5 _ _ (s4 _ _ (s3 _ _ ha))) (at_n (nis_nx (hflt _ (List.getElem_mem hjl)))) ?_
      have : (follow o ops[i] i).getD j 0 = (follow o ops[i] i)[j] := by rw [List.getD_eq_getElem?_getD, List.getElem?_eq_getElem hjl]; rfl
      rw [← this]
      exact kR H5 (Same.refl _)
    · have eD : (List.range (nis (follow o ops[i] i)).length).map (fun j => ni (Obx.nx o ((follow o ops[i] i).getD j 0))) = nis ((follow o ops[i] i).map (Obx.nx o)) := by
        have e0 : (nis (follow o ops[i] i)).length = (nis ((follow o ops[i] i).map (Obx.nx o))).length := by rw [nis_len, nis_len, List.length_map]
        rw [e0]
        refine range_map_get fun j hj => ?_
        rw [nis_len, List.length_map] at hj
        rw [List.getElem?_map, List.getElem?_map, List.getD_eq_getElem?_getD, List.getElem?_eq_getElem hj]
        rfl
      rw [eD] at hD
      have s35 := s4.trans s5
      have fb : findB1 o ops i = decide (i ∈ (follow o ops[i] i).map (Obx.nx o)) := by unfold findB1; rw [hgi]
      refine r_inL hD ?_
      walk_at "go"
      refine ifD (fun hin => ?_) (fun hnin => ?_)
      · walk_at "go"
        refine r_bmL (s35 _ _ hf3) ?_
        walk_at "go"
        refine r_app (s35 _ _ hf3) (smaller (by
          rw [nis_len]
          have := List.length_filter_le (findB1 o ops) (List.range i)
          rw [List.length_range] at this
          omega)) fun H6 b6 hf6 => ?_
        refine ⟨_, rfl, but_same (s3.trans s35) nf0 b6, ?_⟩
        rw [hf6, List.range_succ, List.filter_append, List.filter_cons_of_pos (by rw [fb]; exact decide_eq_true hin), nis_app]
        rfl
      · walk_at "go"
        refine ⟨_, rfl, s3.trans s35, ?_⟩
        rw [s35 _ _ hf3, List.range_succ, List.filter_append, List.filter_cons_of_neg (by rw [fb]; simpa using hnin)]
        simp
  · rintro σ H3 ⟨x3, rfl, s3, hf3⟩
    walk_at "go"
    refine r_tupL hf3 fun q H4 nq s4 hq => ?_
    exact k q H4 (s3.free nq) (s3.trans s4) hq
end
section
variable {P : Program} {w : World} {K : PySem.W.Frag} {mg : Str → Option Value} {base : Heap}
theorem p160 {n : Nat} (h : n < 2 ^ 160) : n < 2 ^ 600 := Nat.lt_of_lt_of_le h (Nat.pow_le_pow_right (by decide) (by decide))
theorem fact600 {n m : Nat} (h : n ≤ Obx.fact m) (hm : m ≤ 40) : n < 2 ^ 600 := p160 (Nat.lt_of_le_of_lt h (Obx.fact40 hm))
theorem small600 {n : Nat} (h : n ≤ 1000) : n < 2 ^ 600 := p160 (Nat.lt_of_le_of_lt h (by decide))
/-! ### look_at_counts -/
theorem ok_look_at_counts {f : Addr} {fd : FuncData} (F : FnP K "look_at_counts" slook_at_counts f fd) {t_MOST_PEOPLE_counting : Tok} (hc_MOST_PEOPLE_counting : mg "MOST_PEOPLE_counting" = some (.int 60 t_MOST_PEOPLE_counting)) : FnOk P w K mg base CX0 1 f fd ["people", "k"] sp_look_at_counts := by
  have sc : FnScope ["people", "k"] ["people", "k"] (defScope slook_at_counts) := ⟨rfl, rfl, rfl, by decide +kernel, rfl, by decide +kernel, by decide +kernel⟩
  refine F.ok sc (fun vs H Q E h => by (obtain ⟨_, _, rfl, _⟩ := h; rfl)) (fun cdv A outer s H vs Q E hr h => ?_)

  obtain ⟨n, kk, rfl, hn, k⟩ := h
  refine ⟨_, PSs.nox (pss_cons (ps_if (PW.pt (pw_or (pt_cmpR op_lt (pv 0) pe_int (nomark _)) (pw_or1 (pt_cmpR op_gt (pv 0) (pe_glob (v := .int 60) rfl hc_MOST_PEOPLE_counting ⟨_, rfl⟩) (nomark _))))) (pss_one ps_never) pss_nil)
      (pss_one (ps_if (pt_cmpR op_lt (pv 1) pe_int (nomark _)) (pss_one ps_never) pss_nil))), ?_⟩
  walk_at "go"
  refine ifDF (by omega) ?_
  walk_at "go"
  refine ifDF (by omega) ?_
  walk_at "go"
  refine ifDF (by omega) ?_
  walk_at "go"
  exact k H (Same.refl H)
/-! ### product_of -/
theorem fact_step (i : Nat) : Obx.fact (i + 1) * (2 + i) = Obx.fact (i + 2) := by
  show _ = (i + 1 + 1) * Obx.fact (i + 1)
  rw [Nat.mul_comm]
  congr 1
  omega
theorem ok_product_of {f : Addr} {fd : FuncData} (F : FnP K "product_of" sproduct_of f fd) (hb_range : mg "range" = none) : FnOk P w K mg base CX0 1 f fd ["many"] sp_product_of := by
  have sc : FnScope ["many", "found", "number"] ["many"] (defScope sproduct_of) := ⟨rfl, rfl, rfl, by decide +kernel, rfl, by decide +kernel, by decide +kernel⟩
  refine F.ok sc (fun vs H Q E h => by (obtain ⟨_, rfl, _⟩ := h; rfl)) (fun cdv A outer s H vs Q E hr h => ?_)

  obtain ⟨n, rfl, hn, k⟩ := h
  refine ⟨_, PSs.nox (pss_cons (ps_set (i := 1) sc.nd rfl (Or.inl rfl) pe_int)
      (pss_cons (ps_for PassesOwn.never rfl (pi_range2 rfl hb_range (pa_cons pe_int (pa_cons (pe_op op_add (pv 0) pe_int) pa_nil))) (pg_name (i := 2) sc.nd rfl (Or.inl rfl))
      (pss_one (ps_set (i := 1) sc.nd rfl (Or.inl rfl) (pe_op op_mulX (pv 1) (pv 2)))))
      (pss_one (ps_ret (pv 1))))), ?_⟩
  walk_at "go"
  refine r_rng2 ⟨by omega, by omega, by omega, by omega⟩ ?_
  refine forRn (lo := 2) (n := n - 1) (fun i σ H' => ∃ x2, σ = [some (ni n), some (ni (Obx.fact (i + 1))), x2] ∧ Same H H') ⟨none, rfl, Same.refl H⟩ ?_ ?_ |> cast (by
    have : ((n : Int) + 1 - 2).toNat = n - 1 := by omega
    rw [this]
    rfl)
  · rintro i σ H1 hi ⟨x2, rfl, s1⟩
    walk_at "go"
    refine r_mul (fact600 (Nat.le_refl _) (by omega)) (small600 (by omega)) ?_
    rw [fact_step]
    exact ⟨_, rfl, s1⟩
  · rintro σ H1 ⟨x2, rfl, s1⟩
    walk_at "go"
    have e : Obx.fact (n - 1 + 1) = Obx.fact n := by
      cases n with
      | zero => rfl
      | succ n => rfl
    rw [e]
    exact k H1 s1
/-! ### by_rings -/
theorem ok_by_rings {f : Addr} {fd : FuncData} (F : FnP K "by_rings" sby_rings f fd) (hb_range : mg "range" = none) : FnOk P w K mg base CX0 1 f fd ["people", "least", "most"] sp_by_rings := by
  have sc : FnScope ["people", "least", "most", "found", "many", "total", "lines", "boxes"] ["people", "least", "most"] (defScope sby_rings) := ⟨rfl, rfl, rfl, by decide +kernel, rfl, by decide +kernel, by decide +kernel⟩
  refine F.ok sc (fun vs H Q E h => by (obtain ⟨_, _, _, rfl, _⟩ := h; rfl)) (fun cdv A outer s H vs Q E hr h => ?_)

  obtain ⟨n, lo, hi, rfl, hn, k⟩ := h
  refine ⟨_, PSs.nox (pss_cons (ps_set (i := 3) sc.nd rfl (Or.inl rfl) (pe_lst (pa_cons pe_int pa_nil)))
      (pss_cons (ps_for PassesOwn.never rfl (pi_range2 rfl hb_range (pa_cons pe_int (pa_cons (pe_op op_add (pv 0) pe_int) pa_nil))) (pg_name (i := 4) sc.nd rfl (Or.inl rfl))
      (pss_cons (ps_set (i := 5) sc.nd rfl (Or.inl rfl) pe_int)
      (pss_cons (ps_set (i := 6) sc.nd rfl (Or.inl rfl) pe_int)
      (pss_cons (ps_for PassesOwn.never rfl (pi_range2 rfl hb_range (pa_cons pe_int (pa_cons (pe_op op_add (pv 4) pe_int) pa_nil))) (pg_name (i := 7) sc.nd rfl (Or.inl rfl))
      (pss_cons (ps_if (pt_chain op_le op_le (pv 1) (pv 7) (pv 2)) (pss_one (ps_aug (i := 5) sc.nd rfl (Or.inl rfl) (pe_op op_mulX (pv 6) (pe_ix (k_ixL (K := K) rfl) (pv 3) (pe_op op_sub (pv 4) (pv 7)) (fun _ _ => rfl))) ip_add)) pss_nil)
      (pss_one (ps_set (i := 6) sc.nd rfl (Or.inl rfl) (pe_op op_mulX (pv 6) (pe_op op_sub (pv 4) (pv 7)))))))
      (pss_one (ps_expr (k_bm (K := K) rfl PySem.F.plainAttrs_list PySem.F.slot_list_append PySem.F.type_list_append mt_append (pv 3) (pa_cons (pv 5) pa_nil))))))))
      (pss_one (ps_ret (pv 3))))), ?_⟩
  walk_at "go"
  refine new_lst (by show 1 ≤ sizeLine; decide) fun fl H1 nf s1 hf => ?_
  walk_at "go"
  refine r_rng2 ⟨by omega, by omega, by omega, by omega⟩ ?_
  have en : ((n : Int) + 1 - 1).toNat = n := by omega
  rw [en]
  refine forR1 (fun i σ H' => ∃ x4 x5 x6 x7, σ = [some (ni n), some (ni lo), some (ni hi), some (.ref fl), x4, x5, x6, x7] ∧ Same H H' ∧ H' fl = some (.lst (nis (Obx.gl lo hi i)))) ⟨_, _, _, _, rfl, s1, hf⟩ ?_ ?_
  · rintro i σ H2 hi' ⟨x4, x5, x6, x7, rfl, s2, hf2⟩
    walk_at "go"
    refine r_rng2 ⟨by omega, by omega, by omega, by omega⟩ ?_
    have em : (((i + 1 : Nat) : Int) + 1 - 1).toNat = i + 1 := by omega
    rw [em]
    refine forR1 (fun j σ H' => ∃ x7, σ = [some (ni n), some (ni lo), some (ni hi), some (.ref fl), some (ni (i + 1)), some (ni (Obx.tot lo hi (fun j => (Obx.gl lo hi i).getD j 0) (i + 1) j)), some (ni (Obx.dfac i j)), x7] ∧ Same H H' ∧ H' fl = some (.lst (nis (Obx.gl lo hi i)))) ⟨_, rfl, s2, hf2⟩ ?_ ?_
    · rintro j σ H3 hj ⟨x7, rfl, s3, hf3⟩
      have hd : Obx.dfac i j < 2 ^ 600 := fact600 (Obx.dfac_le (by omega)) (by omega)
      have ms : (((i + 1 : Nat) : Int) - ((j + 1 : Nat) : Int)) = ((i - j : Nat) : Int) := by omega
      have et : ∀ c : Bool, c = decide (lo ≤ j + 1 ∧ j + 1 ≤ hi) → Obx.tot lo hi (fun j => (Obx.gl lo hi i).getD j 0) (i + 1) (j + 1) = Obx.tot lo hi (fun j => (Obx.gl lo hi i).getD j 0) (i + 1) j + (if c = true then Obx.dfac i j * Obx.gg lo hi (i - j) else 0) := by
        rintro c rfl
        show Obx.tot lo hi _ (i + 1) j + (if lo ≤ j + 1 ∧ j + 1 ≤ hi then Obx.dfac (i + 1 - 1) j * (Obx.gl lo hi i).getD (i + 1 - (j + 1)) 0 else 0) = _
        rw [Nat.add_sub_cancel, Nat.add_sub_add_right, Obx.gl_at lo hi i (i - j) (by omega)]
        by_cases c : lo ≤ j + 1 ∧ j + 1 ≤ hi
        · rw [if_pos c, if_pos (decide_eq_true c)]
        · rw [if_neg c, if_neg (by simpa using c)]
      walk_at "go"
      refine ifD (fun h1 => ?_) (fun h1 => ?_)
      · walk_at "go"
        refine ifD (fun h2 => ?_) (fun h2 => ?_)
        · walk_at "go"
          rw [ms]
          refine r_ixL hf3 (at_n (i := i - j) (by rw [List.getElem?_map, Obx.gl_get lo hi (by omega)]; rfl)) ?_
          refine r_mul hd (fact600 (Obx.gg_fact lo hi _) (by omega)) ?_
          walk_at "go"
          rw [ms]
          refine r_mul hd (small600 (by omega)) ?_
          refine ⟨some (ni (j + 1)), ?_, s3, hf3⟩
          rw [et true (decide_eq_true ⟨by omega, by omega⟩).symm, if_pos rfl]
          rfl
        · walk_at "go"
          rw [ms]
          refine r_mul hd (small600 (by omega)) ?_
          refine ⟨some (ni (j + 1)), ?_, s3, hf3⟩
          rw [et false (decide_eq_false (fun z => h2 (by omega))).symm, if_neg Bool.false_ne_true, Nat.add_zero]
          rfl
      · walk_at "go"
        refine iteF ?_
        walk_at "go"
        rw [ms]
        refine r_mul hd (small600 (by omega)) ?_
        refine ⟨some (ni (j + 1)), ?_, s3, hf3⟩
        rw [et false (decide_eq_false (fun z => h1 (by omega))).symm, if_neg Bool.false_ne_true, Nat.add_zero]
        rfl
    · rintro σ H3 ⟨x7, rfl, s3, hf3⟩
      walk_at "go"
      refine r_bmL hf3 ?_
      walk_at "go"
      refine r_app hf3 (smaller (by rw [nis_len, Obx.gl_length]; omega)) fun H4 b4 hf4 => ?_
      refine ⟨_, _, _, _, rfl, but_same s3 nf b4, ?_⟩
      rw [hf4]
      show _ = some (HO.lst (nis (Obx.gl lo hi i ++ [_])))
      rw [nis_app]
      rfl
  · rintro σ H2 ⟨x4, x5, x6, x7, rfl, s2, hf2⟩
    walk_at "go"
    exact k fl H2 nf s2 hf2
/-! ### many_good -/
theorem ok_many_good {f : Addr} {fd : FuncData} (F : FnP K "many_good" smany_good f fd) (hd_by_rings : Dc P w K mg base "by_rings" ["people", "least", "most"] 1 sp_by_rings) (hd_look_at_counts : Dc P w K mg base "look_at_counts" ["people", "k"] 1 sp_look_at_counts) : FnOk P w K mg base CX0 2 f fd ["people", "k"] sp_many_good := by
  have sc : FnScope ["people", "k"] ["people", "k"] (defScope smany_good) := ⟨rfl, rfl, rfl, by decide +kernel, rfl, by decide +kernel, by decide +kernel⟩
  refine F.ok sc (fun vs H Q E h => by (obtain ⟨_, _, rfl, _⟩ := h; rfl)) (fun cdv A outer s H vs Q E hr h => ?_)

  obtain ⟨n, kk, rfl, hn, k⟩ := h
  refine ⟨_, PSs.nox (pss_cons (ps_expr (pcall hd_look_at_counts hr rfl (pa_cons (pv 0) (pa_cons (pv 1) pa_nil))))
      (pss_one (ps_ret (pe_ix (k_ixL (K := K) rfl) (pcall hd_by_rings hr rfl (pa_cons (pv 0) (pa_cons pe_int (pa_cons (pv 1) pa_nil)))) (pv 0) (fun _ _ => rfl))))), ?_⟩
  walk_at "go"
  refine ⟨n, kk, rfl, by omega, fun H1 s1 => ?_⟩
  walk_at "go"
  refine ⟨n, 1, kk, rfl, hn, fun p H2 np s2 hp => ?_⟩
  walk_at "go"
  refine r_ixL hp (at_n (i := n) (by rw [List.getElem?_map, Obx.gl_get 1 kk (Nat.le_refl n)]; rfl)) ?_
  exact k H2 (s1.trans s2)
/-! ### sets_row -/
theorem ok_sets_row {f : Addr} {fd : FuncData} (F : FnP K "sets_row" ssets_row f fd) (hb_range : mg "range" = none) : FnOk P w K mg base CX0 1 f fd ["people"] sp_sets_row := by
  have sc : FnScope ["people", "row", "some"] ["people"] (defScope ssets_row) := ⟨rfl, rfl, rfl, by decide +kernel, rfl, by decide +kernel, by decide +kernel⟩
  refine F.ok sc (fun vs H Q E h => by (obtain ⟨_, rfl, _⟩ := h; rfl)) (fun cdv A outer s H vs Q E hr h => ?_)

  obtain ⟨n, rfl, hn, k⟩ := h
  subst hn
  refine ⟨_, PSs.nox (pss_cons (ps_set (i := 1) sc.nd rfl (Or.inl rfl) (pe_lst (pa_cons pe_int pa_nil)))
      (pss_cons (ps_for PassesOwn.never rfl (pi_range1 rfl hb_range (pa_cons (pv 0) pa_nil)) (pg_name (i := 2) sc.nd rfl (Or.inl rfl))
      (pss_one (ps_expr (k_bm (K := K) rfl PySem.F.plainAttrs_list PySem.F.slot_list_append PySem.F.type_list_append mt_append (pv 1) (pa_cons (pe_op op_fdivW (pe_op op_mulX (pe_ix (k_ixL (K := K) rfl) (pv 1) (pe_un un_neg pe_int) (fun _ _ => rfl)) (pe_op op_sub (pv 0) (pv 2))) (pe_op op_add (pv 2) pe_int)) pa_nil)))))
      (pss_one (ps_ret (pv 1))))), ?_⟩
  walk_at "go"
  refine new_lst (by show 1 ≤ sizeLine; decide) fun fl H1 nf s1 hf => ?_
  walk_at "go"
  refine r_rng1 (by omega) ?_
  refine forR0 (n := 0) (fun i σ H' => σ = [some (ni 0), some (.ref fl), none] ∧ H' = H1) ⟨rfl, rfl⟩ (fun i σ H' hi _ => absurd hi (by omega)) ?_
  rintro σ H2 ⟨rfl, rfl⟩
  walk_at "go"
  exact k fl H2 nf s1 hf
/-! ### divisor_of -/
theorem ok_divisor_of {f : Addr} {fd : FuncData} (F : FnP K "divisor_of" sdivisor_of f fd)  : FnOk P w K mg base CX0 1 f fd ["one", "other"] sp_divisor_of := by
  have sc : FnScope ["one", "other"] ["one", "other"] (defScope sdivisor_of) := ⟨rfl, rfl, rfl, by decide +kernel, rfl, by decide +kernel, by decide +kernel⟩
  refine F.ok sc (fun vs H Q E h => by (obtain ⟨_, _, rfl, _⟩ := h; rfl)) (fun cdv A outer s H vs Q E hr h => ?_)

  obtain ⟨a, b, rfl, k⟩ := h
  refine ⟨_, PSs.nox (pss_cons (ps_while PassesOwn.never (pt_cmpR op_gt (pv 1) pe_int (nomark _))
      (pss_one (ps_par (i := 0) (j := 1) (by rfl) sc.nd rfl rfl (by decide) rfl rfl (pa_cons (pv 1) (pa_cons (pe_op op_mod (pv 0) (pv 1)) pa_nil)) (by rfl))))
      (pss_one (ps_ret (pv 0)))), ?_⟩
  walk_at "go"
  refine ⟨fun m σ H' => ∃ x y, σ = [some (ni x), some (ni y)] ∧ Same H H' ∧ Nat.gcd x y = Nat.gcd a b ∧ m = y, ⟨b, a, b, rfl, Same.refl H, rfl, rfl⟩, ?_⟩
  rintro m σ H1 ⟨x, y, rfl, s1, e, rfl⟩
  walk_at "go"
  refine ifD (fun hy => ?_) (fun hy => ?_)
  · have hy' : 0 < m := by omega
    refine ⟨_, fun σ' H' hN => hN, ?_⟩
    walk_at "go"
    refine r_mod hy' ?_
    walk_at "go"
    refine ⟨x % m, Nat.mod_lt _ hy', m, x % m, rfl, s1, ?_, rfl⟩
    rw [← e, Nat.gcd_comm x m, Nat.gcd_rec m x, Nat.gcd_comm]
  · have hy' : m = 0 := by omega
    subst hy'
    walk_at "go"
    rw [Nat.gcd_zero_right] at e
    rw [e]
    exact k H1 s1
/-! ### with_one_more -/
theorem ok_with_one_more {f : Addr} {fd : FuncData} (F : FnP K "with_one_more" swith_one_more f fd) (hb_enumerate : mg "enumerate" = none) (hb_min : mg "min" = none) (hb_range : mg "range" = none) : FnOk P w K mg base CX0 1 f fd ["begun", "left", "most"] sp_with_one_more := by
  have sc : FnScope ["begun", "left", "most", "found", "free", "ways", "boxes"] ["begun", "left", "most"] (defScope swith_one_more) := ⟨rfl, rfl, rfl, by decide +kernel, rfl, by decide +kernel, by decide +kernel⟩
  refine F.ok sc (fun vs H Q E h => by (obtain ⟨_, _, _, _, rfl, _⟩ := h; rfl)) (fun cdv A outer s H vs Q E hr h => ?_)

  obtain ⟨a, left, most, begun, rfl, ha, hl, hbl, hm, hB, k⟩ := h
  refine ⟨_, PSs.nox (pss_cons (ps_set (i := 3) sc.nd rfl (Or.inl rfl) (pe_op op_rep (pe_lst (pa_cons pe_int pa_nil)) (pe_op op_add (pv 1) pe_int)))
      (pss_cons (ps_for PassesOwn.never rfl (k_enum (K := K) rfl rfl hb_enumerate (pa_cons (pv 0) pa_nil)) (k_gTup (K := K) (n := 2) rfl rfl (pgs_cons (pg_name (i := 4) sc.nd rfl (Or.inl rfl)) (pgs_cons (pg_name (i := 5) sc.nd rfl (Or.inl rfl)) pgs_nil)))
      (pss_cons (ps_if (pt_cmpR op_gt (pv 4) pe_int (nomark _)) (pss_one (ps_augS (pv 3) (pe_op op_sub (pv 4) pe_int) get_list (pe_op op_mulX (pv 4) (pv 5)) ip_add set_list)) pss_nil)
      (pss_one (ps_for PassesOwn.never rfl (pi_range2 rfl hb_range (pa_cons pe_int (pa_cons (pe_op op_add (pe_callB (call_min2N rfl) (by rfl) hb_min (by decide +kernel) (pa_cons (pv 2) (pa_cons (pe_op op_add (pe_op op_sub (pv 1) (pv 4)) pe_int) pa_nil))) pe_int) pa_nil))) (pg_name (i := 6) sc.nd rfl (Or.inl rfl))
      (pss_one (ps_augS (pv 3) (pe_op op_sub (pe_op op_add (pv 4) (pv 6)) pe_int) get_list (pv 5) ip_add set_list))))))
      (pss_one (ps_ret (pv 3))))), ?_⟩
  walk_at "go"
  refine new_lst (by show 1 ≤ sizeLine; decide) fun z H1 nz s1 hz => ?_
  walk_at "go"
  rw [ni_succ]
  refine r_rep1 (x := 0) (n := left + 1) hz (by omega) fun fl H2 nf s2 hf => ?_
  have s02 := s1.trans s2
  have nf0 := s1.free nf
  walk_at "go"
  refine r_ite (s02 _ _ ha) ?_
  refine forE (xs := nis begun) (fun i σ H' => ∃ x4 x5 x6 acc, σ = [some (.ref a), some (ni left), some (ni most), some (.ref fl), x4, x5, x6] ∧ Same H H' ∧ H' fl = some (.lst (nis acc)) ∧ acc.length = left + 1 ∧
    Obx.oneGo left most acc i (begun.drop i) = Obx.oneMore begun left most) ⟨_, _, _, _, rfl, s02, hf, List.length_replicate .., rfl⟩ (fun i σ H' _ ⟨_, _, _, _, _, s, _⟩ => s _ _ ha) ?_ ?_
  · rintro i x σ H3' H3 hi ⟨x4, x5, x6, acc, rfl, s3', hf3', hacc, e⟩ s33
    obtain ⟨hil, rfl⟩ := of_nis hi
    have s3 := s3'.trans s33
    have hf3 := s33 _ _ hf3'
    have hw : begun[i] < 2 ^ 600 := Nat.lt_of_lt_of_le (hB _ (List.getElem_mem hil)) (Nat.pow_le_pow_right (by decide) (by decide))
    rw [List.drop_eq_getElem_cons hil] at e
    have e' : Obx.oneGo left most (Obx.spread (Obx.placed acc i begun[i]) i begun[i] (min most (left + 1 - i))) (i + 1) (begun.drop (i + 1)) = Obx.oneMore begun left most := e
    have hpl : (Obx.placed acc i begun[i]).length = left + 1 := by rw [Obx.placed_length, hacc]
    -- the inner loop, from what stands once the place is taken
    have inner : ∀ H4 : Hp, Same H H4 → H4 fl = some (.lst (nis (Obx.placed acc i begun[i]))) →
        tFor (iRng2 (tCons (tC (.int 1)) (tCons (tOp (rI0 fun i j => .int (i + j)) (tCB rMin2 (tCons (tVar 2) (tCons (tOp (rI0 fun i j => .int (i + j)) (tOp (rI0 fun i j => .int (i - j)) (tVar 1) (tVar 4)) (tC (.int 1))) tNil))) (tC (.int 1))) tNil))) (gName 6)
          (tAugS (tVar 3) (tOp (rI0 fun i j => .int (i - j)) (tOp (rI0 fun i j => .int (i + j)) (tVar 4) (tVar 6)) (tC (.int 1))) (tVar 5) rGetL (ipI fun i j => i + j) rSetL)
          { nx := fun σ H' => ∃ x4 x5 x6 acc, σ = [some (.ref a), some (ni left), some (ni most), some (.ref fl), x4, x5, x6] ∧ Same H H' ∧ H' fl = some (.lst (nis acc)) ∧ acc.length = left + 1 ∧ Obx.oneGo left most acc (i + 1) (begun.drop (i + 1)) = Obx.oneMore begun left most,
            ct := fun σ H' => ∃ x4 x5 x6 acc, σ = [some (.ref a), some (ni left), some (ni most), some (.ref fl), x4, x5, x6] ∧ Same H H' ∧ H' fl = some (.lst (nis acc)) ∧ acc.length = left + 1 ∧ Obx.oneGo left most acc (i + 1) (begun.drop (i + 1)) = Obx.oneMore begun left most,
            bk := fun σ H => tRet (tVar 3) { nx := fun x H' => Q V.non H', rt := Q } σ H, rt := Q }
          [some (.ref a), some (ni left), some (ni most), some (.ref fl), some (ni i), some (ni begun[i]), x6] H4 := by
      intro H4 s4 hf4
      have ef : ((left : Int) - (i : Int) + 1) = ((left + 1 - i : Nat) : Int) := by omega
      walk_at "go"
      rw [ef]
      walk_at "go"
      refine r_rng2 ⟨by omega, by omega, by omega, by omega⟩ ?_
      have en : (((min most (left + 1 - i) : Nat) : Int) + 1 - 1).toNat = min most (left + 1 - i) := by omega
      rw [en]
      refine forR1 (fun c σ H' => ∃ x6, σ = [some (.ref a), some (ni left), some (ni most), some (.ref fl), some (ni i), some (ni begun[i]), x6] ∧ Same H H' ∧ H' fl = some (.lst (nis (Obx.spread (Obx.placed acc i begun[i]) i begun[i] c)))) ⟨_, rfl, s4, hf4⟩ ?_ ?_
      · rintro c σ H5 hc ⟨y6, rfl, s5, hf5⟩
        have ec : ((i : Int) + ((c + 1 : Nat) : Int) - 1) = ((i + c : Nat) : Int) := by omega
        have hlt : i + c < (Obx.spread (Obx.placed acc i begun[i]) i begun[i] c).length := by rw [Obx.spread_length, hpl]; omega
        walk_at "go"
        rw [ec]
        refine r_getL hf5 (nis_get hlt) ?_
        walk_at "go"
        refine r_setL hf5 (ixN_n (by rw [nis_len]; exact hlt)) fun H6 b6 hf6 => ?_
        refine ⟨_, rfl, but_same s5 nf0 b6, ?_⟩
        rw [hf6, ni_add, nis_set]
        show _ = some (HO.lst (nis ((Obx.spread _ i begun[i] c).set (i + c) ((Obx.spread _ i begun[i] c).getD (i + c) 0 + begun[i]))))
        rw [List.getD_eq_getElem?_getD, List.getElem?_eq_getElem hlt]
        rfl
      · rintro σ H5 ⟨y6, rfl, s5, hf5⟩
        exact ⟨_, _, _, _, rfl, s5, hf5, by rw [Obx.spread_length, hpl], e'⟩
    walk_at "go"
    refine ifD (fun h0 => ?_) (fun h0 => ?_)
    · have hi0 : 0 < i := by omega
      have e1 : ((i : Int) - 1) = ((i - 1 : Nat) : Int) := by omega
      have hi1 : i - 1 < acc.length := by rw [hacc]; omega
      walk_at "go"
      rw [e1]
      refine r_getL hf3 (nis_get hi1) ?_
      walk_at "go"
      refine r_mul (small600 (by omega)) hw ?_
      walk_at "go"
      refine r_setL hf3 (ixN_n (by rw [nis_len]; exact hi1)) fun H4 b4 hf4 => ?_
      refine inner H4 (but_same s3 nf0 b4) ?_
      rw [hf4, ni_add, nis_set]
      unfold Obx.placed
      rw [if_pos hi0]
      show _ = some (HO.lst (nis (acc.set (i - 1) (acc.getD (i - 1) 0 + i * begun[i]))))
      rw [List.getD_eq_getElem?_getD, List.getElem?_eq_getElem hi1]
      rfl
    · have hi0 : ¬ 0 < i := by omega
      refine r_next ?_
      refine inner H3 s3 ?_
      rw [hf3]
      unfold Obx.placed
      rw [if_neg hi0]
  · rintro σ H3 ⟨x4, x5, x6, acc, rfl, s3, hf3, hacc, e⟩
    rw [nis_len, List.drop_eq_nil_of_le (Nat.le_refl _)] at e
    walk_at "go"
    refine k fl H3 nf0 s3 ?_
    rw [hf3, ← e]
    rfl
end
section
variable {P : Program} {w : World} {K : PySem.W.Frag} {mg : Str → Option Value} {base : Heap}
/-! ### many_all -/
theorem bd_of {B : Nat} {l : List Nat} (h : Obx.Bd B l) : ∀ x ∈ l, x ≤ B := fun x hx => by
  obtain ⟨i, hi, rfl⟩ := List.getElem_of_mem hx
  have := h i
  rw [List.getD_eq_getElem?_getD, List.getElem?_eq_getElem hi] at this
  exact this
theorem ok_many_all {f : Addr} {fd : FuncData} (F : FnP K "many_all" smany_all f fd) (hd_made_openings : Dc P w K mg base "made_openings" ["people", "numbers"] 2 sp_made_openings) (hd_with_one_more : Dc P w K mg base "with_one_more" ["begun", "left", "most"] 1 sp_with_one_more) {t_MOST_PEOPLE_counting : Tok} (hc_MOST_PEOPLE_counting : mg "MOST_PEOPLE_counting" = some (.int 60 t_MOST_PEOPLE_counting)) (hb_enumerate : mg "enumerate" = none) (hb_len : mg "len" = none) (hb_sorted : mg "sorted" = none) : FnOk P w K mg base CX0 3 f fd ["openings"] sp_many_all := by
  have sc : FnScope ["openings", "people", "begun", "at", "most"] ["openings"] (defScope smany_all) := ⟨rfl, rfl, rfl, by decide +kernel, rfl, by decide +kernel, by decide +kernel⟩
  refine F.ok sc (fun vs H Q E h => by (obtain ⟨_, _, rfl, _⟩ := h; rfl)) (fun cdv A outer s H vs Q E hr h => ?_)

  obtain ⟨a, ops, rfl, ha, h1, h40, hx, k⟩ := h
  refine ⟨_, PSs.nox (pss_cons (ps_set (i := 1) sc.nd rfl (Or.inl rfl) (pe_callB (k_len (K := K) rfl) (by rfl) hb_len PySem.boot_len (pa_cons (pv 0) pa_nil)))
      (pss_cons (ps_if (PW.pt (pw_or (pt_cmpR op_lt (pv 1) pe_int (nomark _)) (pw_or1 (pt_cmpR op_gt (pv 1) (pe_glob (v := .int 60) rfl hc_MOST_PEOPLE_counting ⟨_, rfl⟩) (nomark _))))) (pss_one ps_never) pss_nil)
      (pss_cons (ps_set (i := 2) sc.nd rfl (Or.inl rfl) (pe_lst (pa_cons pe_int pa_nil)))
      (pss_cons (ps_for PassesOwn.never rfl (k_enum (K := K) rfl rfl hb_enumerate (pa_cons (pe_callB (k_sortedT (K := K) rfl) (by rfl) hb_sorted (by decide +kernel) (pa_cons (pcall hd_made_openings hr rfl (pa_cons (pv 1) (pa_cons (pv 0) pa_nil))) pa_nil)) pa_nil)) (k_gTup (K := K) (n := 2) rfl rfl (pgs_cons (pg_name (i := 3) sc.nd rfl (Or.inl rfl)) (pgs_cons (pg_name (i := 4) sc.nd rfl (Or.inl rfl)) pgs_nil)))
      (pss_one (ps_set (i := 2) sc.nd rfl (Or.inl rfl) (pcall hd_with_one_more hr rfl (pa_cons (pv 2) (pa_cons (pe_op op_sub (pe_op op_sub (pv 1) (pv 3)) pe_int) (pa_cons (pv 4) pa_nil)))))))
      (pss_one (ps_ret (pe_ix (k_ixL (K := K) rfl) (pv 2) pe_int (fun _ _ => rfl)))))))), ?_⟩
  have hsl : (sortN ops).length = ops.length := (sortN_perm ops).length_eq
  walk_at "go"
  refine r_lenT ha ?_
  rw [nis_len]
  walk_at "go"
  refine ifDF (by omega) ?_
  walk_at "go"
  refine ifDF (by omega) ?_
  walk_at "go"
  refine new_lst (by show 1 ≤ sizeLine; decide) fun bg H1 nbg s1 hbg => ?_
  walk_at "go"
  refine ⟨ops.length, a, ops, rfl, s1 _ _ ha, rfl, h1, by omega, hx, fun H2 s2 => ?_⟩
  walk_at "go"
  have s02 := s1.trans s2
  refine r_sortT (s02 _ _ ha) (sortN_sorted ops) (sortN_perm ops) fun sl H3 nsl s3 hsl3 => ?_
  have s03 := s02.trans s3
  walk_at "go"
  refine r_ite hsl3 ?_
  refine forE (xs := nis (sortN ops)) (fun i σ H' => ∃ b x3 x4 B, σ = [some (.ref a), some (ni ops.length), some (.ref b), x3, x4] ∧ Same H3 H' ∧ H' b = some (.lst (nis B)) ∧ B.length ≤ ops.length - i + 1 ∧ 0 < B.length ∧ Obx.Bd (2 ^ (11 * i)) B ∧
    Obx.manyGo ops.length B i ((sortN ops).drop i) = Obx.manyGo ops.length [1] 0 (sortN ops)) ⟨bg, _, _, [1], rfl, Same.refl _, s3 _ _ (s2 _ _ hbg), by simp, by simp, fun i => by
      match i with
      | 0 => exact Nat.le_refl _
      | i + 1 => exact Nat.zero_le _, rfl⟩ (fun i σ H' _ ⟨_, _, _, _, _, s, _⟩ => s _ _ hsl3) ?_ ?_
  · rintro i x σ H4' H4 hi ⟨b, x3, x4, B, rfl, s4', hb4', hB1, hB0, hBd, e⟩ s44
    obtain ⟨hil, rfl⟩ := of_nis hi
    have hb4 := s44 _ _ hb4'
    have s4 := s4'.trans s44
    rw [hsl] at hil
    have hmem : (sortN ops)[i] ≤ ops.length := hx _ ((sortN_perm ops).mem_iff.mp (List.getElem_mem _))
    rw [List.drop_eq_getElem_cons (by rw [hsl]; exact hil)] at e
    have e' : Obx.manyGo ops.length (Obx.oneMore B (ops.length - i - 1) (sortN ops)[i]) (i + 1) ((sortN ops).drop (i + 1)) = Obx.manyGo ops.length [1] 0 (sortN ops) := e
    have e1 : ((ops.length : Int) - (i : Int) - 1) = ((ops.length - i - 1 : Nat) : Int) := by omega
    walk_at "go"
    rw [e1]
    refine ⟨b, ops.length - i - 1, (sortN ops)[i], B, rfl, hb4, by omega, by omega, by omega, fun x hx => ?_, fun q H5 nq s5 hq => ?_⟩
    · refine Nat.lt_of_le_of_lt (bd_of hBd x hx) (Nat.pow_lt_pow_right (by decide) (by omega))
    · refine ⟨q, _, _, _, rfl, s4.trans s5, hq, by rw [Obx.oneMore_length]; omega, by rw [Obx.oneMore_length]; omega, ?_, e'⟩
      have := Obx.more_bd (left := ops.length - i - 1) (most := (sortN ops)[i]) hBd (by omega)
      have e2 : 2048 * 2 ^ (11 * i) = 2 ^ (11 * (i + 1)) := by
        rw [show 11 * (i + 1) = 11 + 11 * i by omega, Nat.pow_add]
      rw [e2] at this
      exact this
  · rintro σ H4 ⟨b, x3, x4, B, rfl, s4, hb4, hB1, hB0, hBd, e⟩
    rw [nis_len, List.drop_eq_nil_of_le (Nat.le_refl _)] at e
    have e' : B = Obx.manyGo ops.length [1] 0 (sortN ops) := e
    walk_at "go"
    refine r_ixL hb4 (at_n (i := 0) (nis_get hB0)) ?_
    have em : B[0] = mal ops := by
      show _ = (Obx.manyGo (sortN ops).length [1] 0 (sortN ops)).getD 0 0
      rw [hsl, ← e', List.getD_eq_getElem?_getD, List.getElem?_eq_getElem hB0]
      rfl
    rw [em]
    exact k H4 (s03.trans s4)
/-! ### share -/
theorem ok_share {f : Addr} {fd : FuncData} (F : FnP K "share" sshare f fd) (hd_divisor_of : Dc P w K mg base "divisor_of" ["one", "other"] 1 sp_divisor_of) (hd_many_all : Dc P w K mg base "many_all" ["openings"] 3 sp_many_all) (hd_product_of : Dc P w K mg base "product_of" ["many"] 1 sp_product_of) (hb_len : mg "len" = none) : FnOk P w K mg base CX0 4 f fd ["openings"] sp_share := by
  have sc : FnScope ["openings", "found", "every", "common"] ["openings"] (defScope sshare) := ⟨rfl, rfl, rfl, by decide +kernel, rfl, by decide +kernel, by decide +kernel⟩
  refine F.ok sc (fun vs H Q E h => by (obtain ⟨_, _, rfl, _⟩ := h; rfl)) (fun cdv A outer s H vs Q E hr h => ?_)

  obtain ⟨a, ops, rfl, ha, h1, h40, hx, k⟩ := h
  refine ⟨_, PSs.nox (pss_cons (ps_set (i := 1) sc.nd rfl (Or.inl rfl) (pcall hd_many_all hr rfl (pa_cons (pv 0) pa_nil)))
      (pss_cons (ps_set (i := 2) sc.nd rfl (Or.inl rfl) (pcall hd_product_of hr rfl (pa_cons (pe_callB (k_len (K := K) rfl) (by rfl) hb_len PySem.boot_len (pa_cons (pv 0) pa_nil)) pa_nil)))
      (pss_cons (ps_set (i := 3) sc.nd rfl (Or.inl rfl) (pcall hd_divisor_of hr rfl (pa_cons (pv 2) (pa_cons (pv 1) pa_nil))))
      (pss_one (ps_ret (pe_tup (pa_cons (pe_op op_fdivW (pv 1) (pv 3)) (pa_cons (pe_op op_fdivW (pv 2) (pv 3)) pa_nil)))))))), ?_⟩
  walk_at "go"
  refine ⟨a, ops, rfl, ha, h1, h40, hx, fun H1 s1 => ?_⟩
  walk_at "go"
  refine r_lenT (s1 _ _ ha) ?_
  rw [nis_len]
  walk_at "go"
  refine ⟨ops.length, rfl, h40, fun H2 s2 => ?_⟩
  walk_at "go"
  refine ⟨Obx.fact ops.length, mal ops, rfl, fun H3 s3 => ?_⟩
  have hg : 0 < gcdF ops := Nat.gcd_pos_of_pos_left _ (Obx.fact_pos _)
  have hg2 : gcdF ops < 2 ^ 600 := fact600 (Nat.le_of_dvd (Obx.fact_pos _) (Nat.gcd_dvd_left _ _)) h40
  walk_at "go"
  refine r_div hg hg2 ?_
  walk_at "go"
  refine r_div hg hg2 ?_
  walk_at "go"
  refine new_tup (by show 2 ≤ sizeLine; decide) fun p H4 np s4 hp => ?_
  have s03 := (s1.trans s2).trans s3
  exact k p H4 (s03.free np) (s03.trans s4) hp
/-! ### look_at_group -/
theorem ok_look_at_group {f : Addr} {fd : FuncData} (F : FnP K "look_at_group" slook_at_group f fd)  : FnOk P w K mg base CX0 1 f fd ["people", "group"] sp_look_at_group := by
  have sc : FnScope ["people", "group", "last", "person"] ["people", "group"] (defScope slook_at_group) := ⟨rfl, rfl, rfl, by decide +kernel, rfl, by decide +kernel, by decide +kernel⟩
  refine F.ok sc (fun vs H Q E h => by (obtain ⟨_, _, rfl, _⟩ := h; rfl)) (fun cdv A outer s H vs Q E hr h => ?_)

  obtain ⟨n, a, rfl, ha, k⟩ := h
  refine ⟨_, PSs.nox (pss_cons (ps_set (i := 2) sc.nd rfl (Or.inl rfl) (pe_un un_neg pe_int))
      (pss_one (ps_for PassesOwn.never rfl (k_tup (K := K) rfl (pv 1)) (pg_name (i := 3) sc.nd rfl (Or.inl rfl))
      (pss_cons (ps_if (PW.pt (pw_or (pt_cmpR op_le (pv 3) (pv 2) (nomark _)) (pw_or1 (pt_cmpR op_ge (pv 3) (pv 0) (nomark _))))) (pss_one ps_never) pss_nil)
      (pss_one (ps_set (i := 2) sc.nd rfl (Or.inl rfl) (pv 3))))))), ?_⟩
  walk_at "go"
  refine r_itt ha ?_
  refine forT (xs := nis (List.range n)) (fun i σ H' => ∃ x3, σ = [some (ni n), some (.ref a), some (.int ((i : Int) - 1)), x3] ∧ Same H H') ⟨_, rfl, Same.refl H⟩ (fun i σ H' _ ⟨_, _, s⟩ => s _ _ ha) ?_ ?_
  · rintro i x σ H1 hi ⟨x3, rfl, s1⟩
    obtain ⟨hil, rfl⟩ := of_nis hi
    rw [List.length_range] at hil
    rw [List.getElem_range]
    walk_at "go"
    refine ifDF (by omega) ?_
    walk_at "go"
    refine ifDF (by omega) ?_
    walk_at "go"
    refine ⟨some (ni i), ?_, s1⟩
    have e : ((i + 1 : Nat) : Int) - 1 = (i : Int) := by omega
    rw [e]
    rfl
  · rintro σ H1 ⟨x3, rfl, s1⟩
    exact k H1 s1
/-! ### found_by_just -/
theorem ok_found_by_just {f : Addr} {fd : FuncData} (F : FnP K "found_by_just" sfound_by_just f fd) (hd_by_rings : Dc P w K mg base "by_rings" ["people", "least", "most"] 1 sp_by_rings) (hb_range : mg "range" = none) : FnOk P w K mg base CX0 2 f fd ["people", "k"] sp_found_by_just := by
  have sc : FnScope ["people", "k", "good", "bad", "some"] ["people", "k"] (defScope sfound_by_just) := ⟨rfl, rfl, rfl, by decide +kernel, rfl, by decide +kernel, by decide +kernel⟩
  refine F.ok sc (fun vs H Q E h => by (obtain ⟨_, _, rfl, _⟩ := h; rfl)) (fun cdv A outer s H vs Q E hr h => ?_)

  obtain ⟨n, kk, rfl, hn, k⟩ := h
  refine ⟨_, PSs.nox (pss_cons (ps_set (i := 2) sc.nd rfl (Or.inr rfl) (pcall hd_by_rings hr rfl (pa_cons (pv 0) (pa_cons pe_int (pa_cons (pv 1) pa_nil)))))
      (pss_cons (ps_set (i := 3) sc.nd rfl (Or.inr rfl) (pcall hd_by_rings hr rfl (pa_cons (pv 0) (pa_cons (pe_op op_add (pv 1) pe_int) (pa_cons (pv 0) pa_nil)))))
      (pss_one (ps_ret (pe_lc (own := [("some", 4)]) rfl sc.nd (pi_range1 rfl hb_range (pa_cons (pe_op op_add (pv 0) pe_int) pa_nil)) (blkOk_by (N := ["people", "k", "good", "bad", "some"]) (sc := defScope sfound_by_just) (by decide +kernel)) (fun _ _ _ _ _ => (pg_name (i := 4) sc.nd rfl (Or.inl rfl))) (fun _ _ _ _ _ => pts_nil) (fun _ _ _ _ _ => (pe_op op_mulX (pe_ix (k_ixL (K := K) rfl) (pv 2) (pv 4) (fun _ _ => rfl)) (pe_ix (k_ixL (K := K) rfl) (pv 3) (pe_op op_sub (pv 0) (pv 4)) (fun _ _ => rfl))))))))), ?_⟩
  walk_at "go"
  refine ⟨n, 1, kk, rfl, hn, fun g H1 ng s1 hg => ?_⟩
  walk_at "go"
  refine ⟨n, kk + 1, n, rfl, hn, fun b H2 nb s2 hb => ?_⟩
  walk_at "go"
  rw [ni_succ]
  refine r_rng1 (by omega) ?_
  refine lcR (n := n + 1) (fun s => ni (Obx.gg 1 kk s * Obx.gg (kk + 1) n (n - s))) (by omega) ?_ fun D H3 nD s3 hD => ?_
  · intro i H3 R hi s3 kR
    have e1 : ((n : Int) - (i : Int)) = ((n - i : Nat) : Int) := by omega
    walk_at "go"
    refine r_ixL (s3 _ _ (s2 _ _ hg)) (at_n (i := i) (by rw [List.getElem?_map, Obx.gl_get 1 kk (by omega)]; rfl)) ?_
    walk_at "go"
    rw [e1]
    refine r_ixL (s3 _ _ hb) (at_n (i := n - i) (by rw [List.getElem?_map, Obx.gl_get (kk + 1) n (by omega)]; rfl)) ?_
    refine r_mul (fact600 (Obx.gg_fact 1 kk i) (by omega)) (fact600 (Obx.gg_fact (kk + 1) n (n - i)) (by omega)) ?_
    exact kR H3 (Same.refl _)
  · have s02 := s1.trans s2
    refine k D H3 (s02.free nD) (s02.trans s3) ?_
    rw [hD]
    show _ = some (HO.lst (((List.range (n + 1)).map _).map ni))
    rw [List.map_map]
    rfl
/-! ### many_all_of -/
theorem ok_many_all_of {f : Addr} {fd : FuncData} (F : FnP K "many_all_of" smany_all_of f fd) (hd_found_by_just : Dc P w K mg base "found_by_just" ["people", "k"] 2 sp_found_by_just) (hd_look_at_counts : Dc P w K mg base "look_at_counts" ["people", "k"] 1 sp_look_at_counts) (hd_look_at_group : Dc P w K mg base "look_at_group" ["people", "group"] 1 sp_look_at_group) (hd_sets_row : Dc P w K mg base "sets_row" ["people"] 1 sp_sets_row) (hb_len : mg "len" = none) (hb_range : mg "range" = none) (hb_sum : mg "sum" = none) : FnOk P w K mg base CX0 3 f fd ["people", "k", "group"] sp_many_all_of := by
  have sc : FnScope ["people", "k", "group", "just", "sets", "some"] ["people", "k", "group"] (defScope smany_all_of) := ⟨rfl, rfl, rfl, by decide +kernel, rfl, by decide +kernel, by decide +kernel⟩
  refine F.ok sc (fun vs H Q E h => by (obtain ⟨_, _, _, rfl, _⟩ := h; rfl)) (fun cdv A outer s H vs Q E hr h => ?_)

  obtain ⟨n, kk, a, rfl, hn, ha, k⟩ := h
  refine ⟨_, PSs.nox (pss_cons (ps_expr (pcall hd_look_at_counts hr rfl (pa_cons (pv 0) (pa_cons (pv 1) pa_nil))))
      (pss_cons (ps_expr (pcall hd_look_at_group hr rfl (pa_cons (pv 0) (pa_cons (pv 2) pa_nil))))
      (pss_cons (ps_set (i := 3) sc.nd rfl (Or.inr rfl) (pcall hd_found_by_just hr rfl (pa_cons (pv 0) (pa_cons (pv 1) pa_nil))))
      (pss_cons (ps_set (i := 4) sc.nd rfl (Or.inr rfl) (pcall hd_sets_row hr rfl (pa_cons (pe_op op_sub (pv 0) (pe_callB (k_len (K := K) rfl) (by rfl) hb_len PySem.boot_len (pa_cons (pv 2) pa_nil))) pa_nil)))
      (pss_one (ps_ret (pe_callB (k_sum (K := K) rfl rfl) (by rfl) hb_sum (by decide +kernel) (pa_cons (pe_lc (own := [("some", 5)]) rfl sc.nd (pi_range1 rfl hb_range (pa_cons (pe_callB (k_len (K := K) rfl) (by rfl) hb_len PySem.boot_len (pa_cons (pv 4) pa_nil)) pa_nil)) (blkOk_by (N := ["people", "k", "group", "just", "sets", "some"]) (sc := defScope smany_all_of) (by decide +kernel)) (fun _ _ _ _ _ => (pg_name (i := 5) sc.nd rfl (Or.inl rfl))) (fun _ _ _ _ _ => pts_nil) (fun _ _ _ _ _ => (pe_op op_mulX (pe_ix (k_ixL (K := K) rfl) (pv 4) (pv 5) (fun _ _ => rfl)) (pe_ix (k_ixL (K := K) rfl) (pv 3) (pe_op op_add (pv 5) (pe_callB (k_len (K := K) rfl) (by rfl) hb_len PySem.boot_len (pa_cons (pv 2) pa_nil))) (fun _ _ => rfl))))) pa_nil)))))))), ?_⟩
  walk_at "go"
  refine ⟨n, kk, rfl, by omega, fun H1 s1 => ?_⟩
  walk_at "go"
  refine ⟨n, a, rfl, s1 _ _ ha, fun H2 s2 => ?_⟩
  walk_at "go"
  refine ⟨n, kk, rfl, hn, fun j H3 nj s3 hj => ?_⟩
  have s03 := (s1.trans s2).trans s3
  walk_at "go"
  refine r_lenT (s03 _ _ ha) ?_
  rw [nis_len, List.length_range]
  have e0 : V.int ((n : Int) - (n : Int)) = ni 0 := by rw [Int.sub_self]; rfl
  walk_at "go"
  refine ⟨0, by rw [e0]; rfl, rfl, fun st H4 nst s4 hst => ?_⟩
  walk_at "go"
  refine r_lenL hst ?_
  walk_at "go"
  refine r_rng1 (n := 1) (by omega) ?_
  refine lcR (n := 1) (fun s => ni (Obx.G kk n)) (by omega) ?_ fun D H5 nD s5 hD => ?_
  · intro i H5 R hi s5 kR
    have hi0 : i = 0 := by omega
    subst hi0
    walk_at "go"
    refine r_ixL (s5 _ _ hst) (at_n (i := 0) rfl) ?_
    walk_at "go"
    refine r_lenT (s5 _ _ (s4 _ _ (s03 _ _ ha))) ?_
    rw [nis_len, List.length_range]
    walk_at "go"
    have e1 : (((0 : Nat) : Int) + (n : Int)) = ((n : Nat) : Int) := by omega
    rw [e1]
    refine r_ixL (s5 _ _ (s4 _ _ hj)) (at_n (i := n) (v := ni (Obx.gg 1 kk n * Obx.gg (kk + 1) n (n - n))) (by
      rw [List.getElem?_map, List.getElem?_map, List.getElem?_range (by omega)]
      rfl)) ?_
    rw [Nat.sub_self, Obx.gg_zero, Nat.mul_one]
    refine r_mul (by decide) (fact600 (Obx.gg_fact 1 kk n) hn) ?_
    rw [Nat.one_mul]
    exact kR H5 (Same.refl _)
  · have hD' : H5 D = some (.lst (nis [Obx.G kk n])) := hD
    refine r_sumL hD' ?_
    have : [Obx.G kk n].sum = Obx.G kk n := by simp
    rw [this]
    exact k H5 ((s03.trans s4).trans s5)
/-! ### look_at_help, need -/
theorem ok_look_at_help {f : Addr} {fd : FuncData} (F : FnP K "look_at_help" slook_at_help f fd) (hb_len : mg "len" = none) : FnOk P w K mg base CX0 1 f fd ["order", "k"] sp_look_at_help := by
  have sc : FnScope ["order", "k"] ["order", "k"] (defScope slook_at_help) := ⟨rfl, rfl, rfl, by decide +kernel, rfl, by decide +kernel, by decide +kernel⟩
  refine F.ok sc (fun vs H Q E h => by (obtain ⟨_, _, _, rfl, _⟩ := h; rfl)) (fun cdv A outer s H vs Q E hr h => ?_)

  obtain ⟨a, kk, o, rfl, ha, h1, hk, k⟩ := h
  refine ⟨_, PSs.nox (pss_cons (ps_if (PW.pt (pw_or (pt_cmpR op_lt (pv 1) pe_int (nomark _)) (pw_or1 (pt_cmpR op_gt (pv 1) (pe_callB (k_len (K := K) rfl) (by rfl) hb_len PySem.boot_len (pa_cons (pv 0) pa_nil)) (nomark _))))) (pss_one ps_never) pss_nil)
      (pss_one (ps_if (pt_cmpR op_eq (pv 1) pe_int (nomark _)) (pss_one ps_never) pss_nil))), ?_⟩
  walk_at "go"
  refine ifDF (by omega) ?_
  walk_at "go"
  refine r_lenT ha ?_
  rw [nis_len]
  walk_at "go"
  refine ifDF (by omega) ?_
  walk_at "go"
  refine r_eq rfl ?_
  walk_at "go"
  refine ifDF (fun z => by have : kk = 0 := ni_inj z; omega) ?_
  walk_at "go"
  exact k H (Same.refl H)
theorem rings_small {o : List Nat} (io : Obx.IsOrd o) : (Obx.rings o).length ≤ o.length ∧ ∀ r ∈ Obx.rings o, 1 ≤ r.length ∧ r.length ≤ o.length := by
  have P := Obx.rings_parts io
  have hf : (Obx.rings o).flatten.length = o.length := P.cover.len
  refine ⟨?_, fun r hr => ⟨?_, ?_⟩⟩
  · have : ∀ (l : List (List Nat)), (∀ r ∈ l, r ≠ []) → l.length ≤ l.flatten.length := by
      intro l
      induction l with
      | nil => intro _; exact Nat.le_refl _
      | cons r l ih =>
        intro h
        have i1 := ih fun q hq => h q (List.mem_cons_of_mem _ hq)
        have i2 : r.length ≠ 0 := fun z => h r List.mem_cons_self (List.length_eq_zero_iff.mp z)
        rw [List.flatten_cons, List.length_append, List.length_cons]
        omega
    have := this _ P.ne
    omega
  · have : r.length ≠ 0 := fun z => P.ne r hr (List.length_eq_zero_iff.mp z)
    omega
  · have := (List.sublist_flatten_of_mem hr).length_le
    omega
theorem ok_need {f : Addr} {fd : FuncData} (F : FnP K "need" sneed f fd) (hd_look_at_help : Dc P w K mg base "look_at_help" ["order", "k"] 1 sp_look_at_help) (hd_rings_of : Dc P w K mg base "rings_of" ["order"] 2 sp_rings_of) (hb_len : mg "len" = none) (hb_sum : mg "sum" = none) : FnOk P w K mg base CX0 3 f fd ["order", "k"] sp_need := by
  have sc : FnScope ["order", "k", "ring"] ["order", "k"] (defScope sneed) := ⟨rfl, rfl, rfl, by decide +kernel, rfl, by decide +kernel, by decide +kernel⟩
  refine F.ok sc (fun vs H Q E h => by (obtain ⟨_, _, _, rfl, _⟩ := h; rfl)) (fun cdv A outer s H vs Q E hr h => ?_)

  obtain ⟨a, kk, o, rfl, ha, io, h60, h1, hk, k⟩ := h
  refine ⟨_, PSs.nox (pss_cons (ps_expr (pcall hd_look_at_help hr rfl (pa_cons (pv 0) (pa_cons (pv 1) pa_nil))))
      (pss_one (ps_ret (pe_callB (k_sum (K := K) rfl rfl) (by rfl) hb_sum (by decide +kernel) (pa_cons (pe_lc (own := [("ring", 2)]) rfl sc.nd (k_list (K := K) rfl (pcall hd_rings_of hr rfl (pa_cons (pv 0) pa_nil))) (blkOk_by (N := ["order", "k", "ring"]) (sc := defScope sneed) (by decide +kernel)) (fun _ _ _ _ _ => (pg_name (i := 2) sc.nd rfl (Or.inl rfl))) (fun _ _ _ _ _ => pts_nil) (fun _ _ _ _ _ => (pe_op op_fdivW (pe_op op_sub (pe_callB (k_len (K := K) rfl) (by rfl) hb_len PySem.boot_len (pa_cons (pv 2) pa_nil)) pe_int) (pv 1)))) pa_nil))))), ?_⟩
  obtain ⟨rl, rs⟩ := rings_small io
  walk_at "go"
  refine ⟨a, kk, o, rfl, ha, h1, hk, fun H1 s1 => ?_⟩
  walk_at "go"
  refine ⟨a, o, rfl, s1 _ _ ha, io, h60, fun p H2 np s2 ⟨as, hp, rt⟩ => ?_⟩
  walk_at "go"
  refine r_itl hp ?_
  refine lcL (xs := refs as) (fun i => ni ((((Obx.rings o).getD i []).length - 1) / kk)) hp (by rw [List.length_map, rt.len]; omega) ?_ fun D H3 nD s3 hD => ?_
  · intro i x H3 R hi s3 kR
    rw [List.getElem?_map] at hi
    obtain ⟨q, hq, rfl⟩ := Option.map_eq_some_iff.mp hi
    have hil : i < (Obx.rings o).length := by rw [← rt.len]; exact (List.getElem?_eq_some_iff.mp hq).1
    have hr := rt.at_ i q (Obx.rings o)[i] hq (List.getElem?_eq_getElem hil)
    have hg : (Obx.rings o).getD i [] = (Obx.rings o)[i] := by rw [List.getD_eq_getElem?_getD, List.getElem?_eq_getElem hil]; rfl
    walk_at "go"
    refine r_lenT (s3 _ _ hr) ?_
    rw [nis_len]
    walk_at "go"
    have e1 : (((Obx.rings o)[i].length : Int) - 1) = (((Obx.rings o)[i].length - 1 : Nat) : Int) := by
      have := (rs _ (List.getElem_mem hil)).1
      omega
    rw [e1]
    refine r_div (by omega) (small600 (by omega)) ?_
    rw [← hg]
    exact kR H3 (Same.refl _)
  · have eD : (List.range (refs as).length).map (fun i => ni ((((Obx.rings o).getD i []).length - 1) / kk)) = nis ((Obx.rings o).map fun r => (r.length - 1) / kk) := by
      have e0 : (refs as).length = (nis ((Obx.rings o).map fun r => (r.length - 1) / kk)).length := by rw [List.length_map, nis_len, List.length_map, rt.len]
      rw [e0]
      refine range_map_get fun i hi => ?_
      rw [nis_len, List.length_map] at hi
      rw [List.getElem?_map, List.getElem?_map, List.getD_eq_getElem?_getD, List.getElem?_eq_getElem hi]
      rfl
    rw [eD] at hD
    refine r_sumL hD ?_
    exact k H3 ((s1.trans s2).trans s3)
theorem ok__law_need {f : Addr} {fd : FuncData} (F : FnP K "_law_need" s_law_need f fd) (hd_rings_of : Dc P w K mg base "rings_of" ["order"] 2 sp_rings_of) (hb_len : mg "len" = none) (hb_sum : mg "sum" = none) : FnOk P w K mg base CX0 3 f fd ["order", "k"] sp__law_need := by
  have sc : FnScope ["order", "k", "ring"] ["order", "k"] (defScope s_law_need) := ⟨rfl, rfl, rfl, by decide +kernel, rfl, by decide +kernel, by decide +kernel⟩
  refine F.ok sc (fun vs H Q E h => by (obtain ⟨_, _, _, rfl, _⟩ := h; rfl)) (fun cdv A outer s H vs Q E hr h => ?_)

  obtain ⟨a, kk, o, rfl, ha, io, h60, h1, hk, k⟩ := h
  refine ⟨_, PSs.nox (pss_one (ps_ret (pe_callB (k_sum (K := K) rfl rfl) (by rfl) hb_sum (by decide +kernel) (pa_cons (pe_lc (own := [("ring", 2)]) rfl sc.nd (k_list (K := K) rfl (pcall hd_rings_of hr rfl (pa_cons (pv 0) pa_nil))) (blkOk_by (N := ["order", "k", "ring"]) (sc := defScope s_law_need) (by decide +kernel)) (fun _ _ _ _ _ => (pg_name (i := 2) sc.nd rfl (Or.inl rfl))) (fun _ _ _ _ _ => pts_nil) (fun _ _ _ _ _ => (pe_op op_fdivW (pe_op op_sub (pe_callB (k_len (K := K) rfl) (by rfl) hb_len PySem.boot_len (pa_cons (pv 2) pa_nil)) pe_int) (pv 1)))) pa_nil)))), ?_⟩
  obtain ⟨rl, rs⟩ := rings_small io
  walk_at "go"
  refine ⟨a, o, rfl, ha, io, h60, fun p H2 np s2 ⟨as, hp, rt⟩ => ?_⟩
  walk_at "go"
  refine r_itl hp ?_
  refine lcL (xs := refs as) (fun i => ni ((((Obx.rings o).getD i []).length - 1) / kk)) hp (by rw [List.length_map, rt.len]; omega) ?_ fun D H3 nD s3 hD => ?_
  · intro i x H3 R hi s3 kR
    rw [List.getElem?_map] at hi
    obtain ⟨q, hq, rfl⟩ := Option.map_eq_some_iff.mp hi
    have hil : i < (Obx.rings o).length := by rw [← rt.len]; exact (List.getElem?_eq_some_iff.mp hq).1
    have hr := rt.at_ i q (Obx.rings o)[i] hq (List.getElem?_eq_getElem hil)
    have hg : (Obx.rings o).getD i [] = (Obx.rings o)[i] := by rw [List.getD_eq_getElem?_getD, List.getElem?_eq_getElem hil]; rfl
    walk_at "go"
    refine r_lenT (s3 _ _ hr) ?_
    rw [nis_len]
    walk_at "go"
    have e1 : (((Obx.rings o)[i].length : Int) - 1) = (((Obx.rings o)[i].length - 1 : Nat) : Int) := by
      have := (rs _ (List.getElem_mem hil)).1
      omega
    rw [e1]
    refine r_div (by omega) (small600 (by omega)) ?_
    rw [← hg]
    exact kR H3 (Same.refl _)
  · have eD : (List.range (refs as).length).map (fun i => ni ((((Obx.rings o).getD i []).length - 1) / kk)) = nis ((Obx.rings o).map fun r => (r.length - 1) / kk) := by
      have e0 : (refs as).length = (nis ((Obx.rings o).map fun r => (r.length - 1) / kk)).length := by rw [List.length_map, nis_len, List.length_map, rt.len]
      rw [e0]
      refine range_map_get fun i hi => ?_
      rw [nis_len, List.length_map] at hi
      rw [List.getElem?_map, List.getElem?_map, List.getD_eq_getElem?_getD, List.getElem?_eq_getElem hi]
      rfl
    rw [eD] at hD
    refine r_sumL hD ?_
    exact k H3 (s2.trans s3)
end
section
variable {P : Program} {w : World} {K : PySem.W.Frag} {mg : Str → Option Value} {base : Heap}
theorem s600 {n : Nat} (h : n ≤ 1000) : n < 2 ^ 600 := Nat.lt_of_le_of_lt h (by decide)
theorem f600 {n m : Nat} (h : n ≤ Obx.fact m) (hm : m ≤ 40) : n < 2 ^ 600 := Nat.lt_of_lt_of_le (Nat.lt_of_le_of_lt h (Obx.fact40 hm)) (Nat.pow_le_pow_right (by decide) (by decide))
theorem nis_lastD {r : List Nat} (h : r ≠ []) : atI (nis r) (-1) = some (ni (r.getD (r.length - 1) 0)) := by
  have e : r = r.dropLast ++ [r.getLast h] := (List.dropLast_concat_getLast h).symm
  have e2 : r.getD (r.length - 1) 0 = r.getLast h := by
    rw [List.getLast_eq_getElem, List.getD_eq_getElem?_getD, List.getElem?_eq_getElem (by have := List.length_pos_iff.mpr h; omega)]
    rfl
  rw [e2]
  have := nis_last r.dropLast (r.getLast h)
  rw [← e] at this
  exact this
theorem exch_le (k : Nat) : ∀ rs : List (List Nat), (Obx.exch k rs).length ≤ rs.flatten.length
  | [] => Nat.le_refl _
  | r :: rs => by
    have ih := exch_le k rs
    show (Obx.exR k r ++ Obx.exch k rs).length ≤ _
    have := Obx.exR_len k r
    have h2 := Nat.div_le_self (r.length - 1) k
    rw [List.length_append, List.flatten_cons, List.length_append]
    omega
theorem rangeSize_ats {k n : Nat} (hk : 1 ≤ k) (hn : 1 ≤ n) : Builtin.Range.rangeSize ((k : Int) - 1) ((n : Int) - 1) (k : Int) = (((n - 1) / k : Nat) : Int) := by
  unfold Builtin.Range.rangeSize
  rw [if_pos (by omega)]
  by_cases h : k < n
  · rw [if_pos (by omega)]
    have e1 : ((n : Int) - 1 - ((k : Int) - 1) - 1) = ((n - 1 - k : Nat) : Int) := by omega
    rw [e1, ← Int.natCast_ediv]
    have e2 : (n - 1) / k = (n - 1 - k) / k + 1 := by
      rw [Nat.div_eq_sub_div (by omega) (by omega)]
    rw [e2]
    rfl
  · rw [if_neg (by omega), Nat.div_eq_of_lt (by omega)]
    rfl
theorem pl_app (a b : List (Nat × Nat)) : pl (a ++ b) = pl a ++ pl b := List.map_append
theorem refs_snoc (as : List Addr) (a : Addr) : refs (as ++ [a]) = refs as ++ [V.ref a] := by simp [refs]
theorem exR_at {k : Nat} {r : List Nat} {j : Nat} (h : j < (Obx.exR k r).length) : (Obx.exR k r)[j] = Obx.mm (r.getD (k - 1 + j * k) 0) (r.getD (r.length - 1) 0) := by simp [Obx.exR, Obx.ats]
/-! ### exchanges -/
theorem ok_exchanges {f : Addr} {fd : FuncData} (F : FnP K "exchanges" sexchanges f fd) (hd_look_at_help : Dc P w K mg base "look_at_help" ["order", "k"] 1 sp_look_at_help) (hd_rings_of : Dc P w K mg base "rings_of" ["order"] 2 sp_rings_of) (hb_len : mg "len" = none) (hb_max : mg "max" = none) (hb_min : mg "min" = none) (hb_range : mg "range" = none) : FnOk P w K mg base CX0 3 f fd ["order", "k"] sp_exchanges := by
  have sc : FnScope ["order", "k", "found", "ring", "at"] ["order", "k"] (defScope sexchanges) := ⟨rfl, rfl, rfl, by decide +kernel, rfl, by decide +kernel, by decide +kernel⟩
  refine F.ok sc (fun vs H Q E h => by (obtain ⟨_, _, _, rfl, _⟩ := h; rfl)) (fun cdv A outer s H vs Q E hr h => ?_)

  obtain ⟨a, kk, o, rfl, ha, io, h60, h1, hk, k⟩ := h
  refine ⟨_, PSs.nox (pss_cons (ps_expr (pcall hd_look_at_help hr rfl (pa_cons (pv 0) (pa_cons (pv 1) pa_nil))))
      (pss_cons (ps_set (i := 2) sc.nd rfl (Or.inl rfl) (pe_lst pa_nil))
      (pss_cons (ps_for PassesOwn.never rfl (k_list (K := K) rfl (pcall hd_rings_of hr rfl (pa_cons (pv 0) pa_nil))) (pg_name (i := 3) sc.nd rfl (Or.inl rfl))
      (pss_one (ps_for PassesOwn.never rfl (pi_range3 rfl hb_range (pa_cons (pe_op op_sub (pv 1) pe_int) (pa_cons (pe_op op_sub (pe_callB (k_len (K := K) rfl) (by rfl) hb_len PySem.boot_len (pa_cons (pv 3) pa_nil)) pe_int) (pa_cons (pv 1) pa_nil)))) (pg_name (i := 4) sc.nd rfl (Or.inl rfl))
      (pss_one (ps_expr (k_bm (K := K) rfl PySem.F.plainAttrs_list PySem.F.slot_list_append PySem.F.type_list_append mt_append (pv 2) (pa_cons (pe_tup (pa_cons (pe_callB (call_min2N rfl) (by rfl) hb_min (by decide +kernel) (pa_cons (pe_ix (k_ixT (K := K) rfl) (pv 3) (pv 4) (fun _ _ => rfl)) (pa_cons (pe_ix (k_ixT (K := K) rfl) (pv 3) (pe_un un_neg pe_int) (fun _ _ => rfl)) pa_nil))) (pa_cons (pe_callB (call_max2N rfl) (by rfl) hb_max (by decide +kernel) (pa_cons (pe_ix (k_ixT (K := K) rfl) (pv 3) (pv 4) (fun _ _ => rfl)) (pa_cons (pe_ix (k_ixT (K := K) rfl) (pv 3) (pe_un un_neg pe_int) (fun _ _ => rfl)) pa_nil))) pa_nil))) pa_nil)))))))
      (pss_one (ps_ret (pv 2)))))), ?_⟩
  have P := Obx.rings_parts io
  have hfl : (Obx.rings o).flatten.length = o.length := P.cover.len
  walk_at "go"
  refine ⟨a, kk, o, rfl, ha, h1, hk, fun H1 s1 => ?_⟩
  walk_at "go"
  refine new_lst (by show 0 ≤ sizeLine; decide) fun fl H2 nf s2 hf => ?_
  have nf0 := s1.free nf
  have s02 := s1.trans s2
  walk_at "go"
  refine ⟨a, o, rfl, s02 _ _ ha, io, h60, fun p H3 np s3 ⟨as, hp, rt⟩ => ?_⟩
  walk_at "go"
  refine r_itl hp ?_
  refine forL (xs := refs as) (fun i σ H' => ∃ fs x3 x4, σ = [some (.ref a), some (ni kk), some (.ref fl), x3, x4] ∧ Same H H' ∧ H' p = some (.lst (refs as)) ∧ RT H' as (Obx.rings o) ∧ H' fl = some (.lst (refs fs)) ∧ RT H' fs (pl (Obx.exch kk ((Obx.rings o).take i)))) ⟨[], _, _, rfl, s02.trans s3, hp, rt, s3 _ _ hf, .nil⟩ (fun i σ H' _ ⟨_, _, _, _, _, h, _⟩ => h) ?_ ?_
  · rintro i x σ H4 hi ⟨fs, x3, x4, rfl, s4, hp4, rt4, hf4, rf4⟩
    rw [List.getElem?_map] at hi
    obtain ⟨q, hq, rfl⟩ := Option.map_eq_some_iff.mp hi
    have hil : i < (Obx.rings o).length := by rw [← rt.len]; exact (List.getElem?_eq_some_iff.mp hq).1
    have hr := rt4.at_ i q (Obx.rings o)[i] hq (List.getElem?_eq_getElem hil)
    have hne : (Obx.rings o)[i] ≠ [] := P.ne _ (List.getElem_mem hil)
    have hl1 : 1 ≤ (Obx.rings o)[i].length := List.length_pos_iff.mpr hne
    have hfi := flat_take hil
    have hex := exch_le kk ((Obx.rings o).take i)
    generalize hrr : (Obx.rings o)[i] = r at *
    have hpq : p ≠ fl := fun z => by
      have := s3 _ _ hf
      rw [← z, hp] at this
      have := HO.lst.inj (Option.some.inj this)
      rw [List.map_eq_nil_iff] at this
      subst this
      simp at hq
    have hqf : q ≠ fl := fun z => by rw [z, hf4] at hr; cases hr
    walk_at "go"
    refine r_lenT hr ?_
    rw [nis_len]
    walk_at "go"
    have hd := Nat.div_le_self (r.length - 1) kk
    refine r_rng3 (n := (r.length - 1) / kk) (rgc_up (by omega) (by omega) (by omega) (by omega) (by omega) (by omega) (rangeSize_ats h1 hl1) (by omega)) ?_
    refine forC (fun j => kk - 1 + j * kk) (fun j _ => by
      show ((kk : Int) - 1) + (j : Int) * (kk : Int) = _
      rw [Int.natCast_add, Int.natCast_mul]
      omega) (fun j σ H' => ∃ fs x4, σ = [some (.ref a), some (ni kk), some (.ref fl), some (.ref q), x4] ∧ Same H H' ∧ H' p = some (.lst (refs as)) ∧ RT H' as (Obx.rings o) ∧ H' fl = some (.lst (refs fs)) ∧ RT H' fs (pl (Obx.exch kk ((Obx.rings o).take i) ++ (Obx.exR kk r).take j))) ⟨fs, _, rfl, s4, hp4, rt4, hf4, by rw [List.take_zero, List.append_nil]; exact rf4⟩ ?_ ?_
    · rintro j σ H5 hj ⟨fs5, y4, rfl, s5, hp5, rt5, hf5, rf5⟩
      have hr5 := rt5.at_ i q r hq (by rw [← hrr]; exact List.getElem?_eq_getElem hil)
      have hjl : kk - 1 + j * kk < r.length := by
        have h3 : (j + 1) * kk ≤ (r.length - 1) / kk * kk := Nat.mul_le_mul_right _ (by omega)
        have h4 := Nat.div_mul_le_self (r.length - 1) kk
        rw [Nat.add_mul] at h3
        omega
      have hjx : j < (Obx.exR kk r).length := by rw [Obx.exR_len]; exact hj
      have hfs : fs5.length ≤ 1000 := by
        rw [rf5.len]
        unfold pl
        rw [List.length_map, List.length_append, List.length_take]
        have := Obx.exR_len kk r
        omega
      walk_at "go"
      refine r_bmL hf5 ?_
      walk_at "go"
      refine r_ixT hr5 (at_n (nis_get hjl)) ?_
      walk_at "go"
      refine r_ixT hr5 (nis_lastD hne) ?_
      walk_at "go"
      refine r_ixT hr5 (at_n (nis_get hjl)) ?_
      walk_at "go"
      refine r_ixT hr5 (nis_lastD hne) ?_
      walk_at "go"
      refine new_tup (by show 2 ≤ sizeLine; decide) fun t H6 nt s6 ht => ?_
      walk_at "go"
      refine r_app (s6 _ _ hf5) (smaller (by rw [List.length_map]; omega)) fun H7 b7 hf7 => ?_
      have htf : t ≠ fl := fun z => by rw [z, hf5] at nt; cases nt
      refine ⟨fs5 ++ [t], _, rfl, but_same (s5.trans s6) nf0 b7, but_at b7 (s6 _ _ hp5) hpq, (rt5.same s6).but (s6 _ _ hf5) b7, by rw [hf7, refs_snoc], ?_⟩
      have e : (Obx.exR kk r).take (j + 1) = (Obx.exR kk r).take j ++ [Obx.mm r[kk - 1 + j * kk] (r.getD (r.length - 1) 0)] := by
        rw [take_succ hjx]
        rw [exR_at hjx, List.getD_eq_getElem?_getD (i := kk - 1 + j * kk), List.getElem?_eq_getElem hjl]
        rfl
      rw [e, ← List.append_assoc, pl_app]
      refine ((rf5.same s6).but (s6 _ _ hf5) b7).snoc ?_
      rw [but_at b7 ht htf]
      rfl
    · rintro σ H5 ⟨fs5, y4, rfl, s5, hp5, rt5, hf5, rf5⟩
      refine ⟨fs5, _, _, rfl, s5, hp5, rt5, hf5, ?_⟩
      have e : Obx.exch kk ((Obx.rings o).take (i + 1)) = Obx.exch kk ((Obx.rings o).take i) ++ Obx.exR kk r := by
        unfold Obx.exch
        rw [take_succ hil, List.flatMap_append, hrr]
        simp
      rw [e]
      rw [← Obx.exR_len kk r, List.take_length] at rf5
      exact rf5
  · rintro σ H4 ⟨fs, x3, x4, rfl, s4, hp4, rt4, hf4, rf4⟩
    walk_at "go"
    refine k fl H4 nf0 s4 ⟨fs, hf4, ?_⟩
    rw [List.length_map, rt.len, List.take_length] at rf4
    exact rf4
/-! ### lines_of -/
theorem ok_lines_of {f : Addr} {fd : FuncData} (F : FnP K "lines_of" slines_of f fd) (hb_range : mg "range" = none) : FnOk P w K mg base CX0 1 f fd ["many", "some"] sp_lines_of := by
  have sc : FnScope ["many", "some", "found", "taken"] ["many", "some"] (defScope slines_of) := ⟨rfl, rfl, rfl, by decide +kernel, rfl, by decide +kernel, by decide +kernel⟩
  refine F.ok sc (fun vs H Q E h => by (obtain ⟨_, _, rfl, _⟩ := h; rfl)) (fun cdv A outer s H vs Q E hr h => ?_)

  obtain ⟨m, s', rfl, hs, hm, k⟩ := h
  refine ⟨_, PSs.nox (pss_cons (ps_set (i := 2) sc.nd rfl (Or.inl rfl) pe_int)
      (pss_cons (ps_for PassesOwn.never rfl (pi_range1 rfl hb_range (pa_cons (pv 1) pa_nil)) (pg_name (i := 3) sc.nd rfl (Or.inl rfl))
      (pss_one (ps_set (i := 2) sc.nd rfl (Or.inl rfl) (pe_op op_mulX (pv 2) (pe_op op_sub (pv 0) (pv 3))))))
      (pss_one (ps_ret (pv 2))))), ?_⟩
  walk_at "go"
  refine r_rng1 (by omega) ?_
  refine forR0 (n := s') (fun i σ H' => ∃ x3, σ = [some (ni m), some (ni s'), some (ni (Obx.dfac m i)), x3] ∧ Same H H') ⟨_, rfl, Same.refl H⟩ ?_ ?_
  · rintro i σ H1 hi ⟨x3, rfl, s1⟩
    have e : ((m : Int) - (i : Int)) = ((m - i : Nat) : Int) := by omega
    walk_at "go"
    rw [e]
    refine r_mul (f600 (Obx.dfac_le (by omega)) hm) (s600 (by omega)) ?_
    walk_at "go"
    exact ⟨_, rfl, s1⟩
  · rintro σ H1 ⟨x3, rfl, s1⟩
    walk_at "go"
    exact k H1 s1
end
section
variable {P : Program} {w : World} {K : PySem.W.Frag} {mg : Str → Option Value} {base : Heap}
theorem nd_len : ∀ (line left : List Nat), line.Nodup → (∀ x ∈ line, x ∈ left) → line.length ≤ left.length
  | [], left, _, _ => Nat.zero_le _
  | b :: l, left, nd, sub => by
    have h1 := List.nodup_cons.mp nd
    have hb : b ∈ left := sub b List.mem_cons_self
    have := nd_len l (left.erase b) h1.2 fun x hx => (List.mem_erase_of_ne (fun (z : x = b) => h1.1 (z ▸ hx))).mpr (sub x (List.mem_cons_of_mem _ hx))
    rw [List.length_erase_of_mem hb] at this
    have := List.length_pos_of_mem hb
    rw [List.length_cons]
    omega
theorem erase_ix (left : List Nat) (b : Nat) (h : b ∈ left) : left.eraseIdx (left.idxOf b) = left.erase b := (List.erase_eq_eraseIdx_of_idxOf rfl).symm
theorem dfac_fact' (m s : Nat) : Obx.dfac m s ≤ Obx.fact m := by
  by_cases h : s ≤ m
  · exact Obx.dfac_le h
  · rw [Obx.dfac_zero (by omega)]
    exact Nat.zero_le _
theorem lineNo_le (M : Nat) : ∀ (line left : List Nat), left.length ≤ M → Obx.lineNo left line ≤ line.length * (M * Obx.fact M)
  | [], left, _ => Nat.zero_le _
  | b :: l, left, h => by
    show left.idxOf b * Obx.dfac (left.length - 1) l.length + Obx.lineNo (left.eraseIdx (left.idxOf b)) l ≤ _
    have i1 := lineNo_le M l (left.eraseIdx (left.idxOf b)) (by have := List.length_eraseIdx_le left (left.idxOf b); omega)
    have i2 : left.idxOf b * Obx.dfac (left.length - 1) l.length ≤ M * Obx.fact M := Nat.mul_le_mul (Nat.le_trans List.idxOf_le_length h) (Nat.le_trans (dfac_fact' _ _) (Obx.fact_mono (by omega)))
    rw [List.length_cons, Nat.succ_mul]
    omega
theorem lineNo600 {line left : List Nat} (h : left.length ≤ 40) (h2 : line.length ≤ 40) : Obx.lineNo left line < 2 ^ 600 := by
  have h1 := lineNo_le 40 line left h
  have h3 : line.length * (40 * Obx.fact 40) ≤ 40 * (40 * Obx.fact 40) := Nat.mul_le_mul_right _ h2
  exact Nat.lt_of_le_of_lt (Nat.le_trans h1 h3) (by decide)
theorem not_ge {a b : Nat} : decide ((a : Int) ≥ (b : Int)) = decide (b ≤ a) := by
  by_cases h : b ≤ a
  · rw [decide_eq_true h, decide_eq_true (by omega)]
  · rw [decide_eq_false h, decide_eq_false (by omega)]
/-! ### line_at -/
theorem ok_line_at {f : Addr} {fd : FuncData} (F : FnP K "line_at" sline_at f fd) (hd_lines_of : Dc P w K mg base "lines_of" ["many", "some"] 1 sp_lines_of) (hb_len : mg "len" = none) (hb_list : mg "list" = none) : FnOk P w K mg base CX0 2 f fd ["left", "some", "number"] sp_line_at := by
  have sc : FnScope ["left", "some", "number", "line", "each"] ["left", "some", "number"] (defScope sline_at) := ⟨rfl, rfl, rfl, by decide +kernel, rfl, by decide +kernel, by decide +kernel⟩
  refine F.ok sc (fun vs H Q E h => by (obtain ⟨_, _, _, _, rfl, _⟩ := h; rfl)) (fun cdv A outer s H vs Q E hr h => ?_)

  obtain ⟨a, s', num, left, rfl, ha, hs, h40, hn, k⟩ := h
  refine ⟨_, PSs.nox (pss_cons (ps_set (i := 0) sc.nd rfl (Or.inl rfl) (pe_callTy (k_lstOf (K := K) rfl) (by rfl) hb_list (by decide +kernel) (pa_cons (pv 0) pa_nil)))
      (pss_cons (ps_set (i := 3) sc.nd rfl (Or.inl rfl) (pe_lst pa_nil))
      (pss_cons (ps_while PassesOwn.never (pt_cmpR op_gt (pv 1) pe_int (nomark _))
      (pss_cons (ps_set (i := 4) sc.nd rfl (Or.inl rfl) (pcall hd_lines_of hr rfl (pa_cons (pe_op op_sub (pe_callB (k_len (K := K) rfl) (by rfl) hb_len PySem.boot_len (pa_cons (pv 0) pa_nil)) pe_int) (pa_cons (pe_op op_sub (pv 1) pe_int) pa_nil))))
      (pss_cons (ps_expr (k_bm (K := K) rfl PySem.F.plainAttrs_list PySem.F.slot_list_append PySem.F.type_list_append mt_append (pv 3) (pa_cons (k_bm (K := K) rfl PySem.F.plainAttrs_list PySem.F.slot_list_pop PySem.F.type_list_pop mt_popAt (pv 0) (pa_cons (pe_op op_fdivW (pv 2) (pv 4)) pa_nil)) pa_nil)))
      (pss_cons (ps_set (i := 2) sc.nd rfl (Or.inl rfl) (pe_op op_mod (pv 2) (pv 4)))
      (pss_one (ps_aug (i := 1) sc.nd rfl (Or.inl rfl) pe_int ip_sub))))))
      (pss_one (ps_ret (pv 3)))))), ?_⟩
  walk_at "go"
  refine r_lstOf (.inl ha) fun l H1 nl s1 hl => ?_
  walk_at "go"
  refine new_lst (by show 0 ≤ sizeLine; decide) fun ln H2 nln s2 hln => ?_
  have nln0 := s1.free nln
  walk_at "go"
  refine ⟨fun m σ H' => ∃ left' num' line' x4, σ = [some (.ref l), some (ni m), some (ni num'), some (.ref ln), x4] ∧ Same H H' ∧ H' l = some (.lst (nis left')) ∧ H' ln = some (.lst (nis line')) ∧ m ≤ left'.length ∧ left'.length ≤ 40 ∧ num' < Obx.dfac left'.length m ∧ line'.length + m = s' ∧
    line' ++ Obx.lineAt left' m num' = Obx.lineAt left s' num, ⟨s', left, num, [], _, rfl, s1.trans s2, s2 _ _ hl, hln, hs, h40, hn, by simp, rfl⟩, ?_⟩
  rintro m σ H3 ⟨left', num', line', x4, rfl, s3, hl3, hln3, hm, hl40, hn3, hlen, e⟩
  have hlne : l ≠ ln := fun z => by rw [z, nln] at hl; cases hl
  walk_at "go"
  refine ifD (fun h0 => ?_) (fun h0 => ?_)
  · obtain ⟨m, rfl⟩ : ∃ n, m = n + 1 := ⟨m - 1, by omega⟩
    obtain ⟨q1, q2, q3⟩ := Obx.lineAt_step hm hn3
    have e1 : (((m + 1 : Nat) : Int) - 1) = (m : Int) := by omega
    have e2 : ((left'.length : Int) - 1) = ((left'.length - 1 : Nat) : Int) := by omega
    have q600 : Obx.dfac (left'.length - 1) m < 2 ^ 600 := f600 (dfac_fact' _ _) (by omega)
    have hel := List.length_eraseIdx_of_lt q2
    refine ⟨_, fun σ' H' hN => hN, ?_⟩
    walk_at "go"
    refine r_lenL hl3 ?_
    rw [nis_len]
    walk_at "go"
    rw [e1, e2]
    refine ⟨left'.length - 1, m, rfl, by omega, by omega, fun H4 s4 => ?_⟩
    walk_at "go"
    refine r_bmL (s4 _ _ hln3) ?_
    walk_at "go"
    refine r_bmL (s4 _ _ hl3) ?_
    walk_at "go"
    refine r_div q1 q600 ?_
    walk_at "go"
    refine r_popAt (s4 _ _ hl3) q2 (by omega) fun H5 b5 hl5 => ?_
    walk_at "go"
    have hln5 := but_at b5 (s4 _ _ hln3) hlne.symm
    refine r_app hln5 (smaller (by rw [nis_len]; omega)) fun H6 b6 hln6 => ?_
    walk_at "go"
    refine r_mod q1 ?_
    walk_at "go"
    rw [e1]
    refine ⟨m, Nat.lt_succ_self m, left'.eraseIdx (num' / Obx.dfac (left'.length - 1) m), num' % Obx.dfac (left'.length - 1) m, line' ++ [left'[num' / Obx.dfac (left'.length - 1) m]], _, rfl, but_same (but_same (s3.trans s4) nl b5) nln0 b6, but_at b6 hl5 hlne, by rw [hln6, nis_app]; rfl, by omega, by omega, by rw [hel]; exact q3, by rw [List.length_append, List.length_singleton]; omega, ?_⟩
    rw [← e, List.append_assoc]
    show _ = line' ++ (left'.getD (num' / Obx.dfac (left'.length - 1) m) 0 :: Obx.lineAt (left'.eraseIdx (num' / Obx.dfac (left'.length - 1) m)) m (num' % Obx.dfac (left'.length - 1) m))
    rw [List.getD_eq_getElem?_getD, List.getElem?_eq_getElem q2]
    rfl
  · have hm0 : m = 0 := by omega
    subst hm0
    walk_at "go"
    refine k ln H3 nln0 s3 ?_
    rw [hln3, ← e]
    show _ = some (HO.lst (nis (line' ++ [])))
    rw [List.append_nil]
/-! ### line_number -/
theorem ok_line_number {f : Addr} {fd : FuncData} (F : FnP K "line_number" sline_number f fd) (hd_lines_of : Dc P w K mg base "lines_of" ["many", "some"] 1 sp_lines_of) (hb_enumerate : mg "enumerate" = none) (hb_len : mg "len" = none) (hb_list : mg "list" = none) : FnOk P w K mg base CX0 2 f fd ["left", "line"] sp_line_number := by
  have sc : FnScope ["left", "line", "number", "at", "box", "place"] ["left", "line"] (defScope sline_number) := ⟨rfl, rfl, rfl, by decide +kernel, rfl, by decide +kernel, by decide +kernel⟩
  refine F.ok sc (fun vs H Q E h => by (obtain ⟨_, _, _, _, rfl, _⟩ := h; rfl)) (fun cdv A outer s H vs Q E hr h => ?_)

  obtain ⟨a, b, left, line, rfl, ha, hb, nd, sub, h40, k⟩ := h
  refine ⟨_, PSs.nox (pss_cons (ps_set (i := 0) sc.nd rfl (Or.inl rfl) (pe_callTy (k_lstOf (K := K) rfl) (by rfl) hb_list (by decide +kernel) (pa_cons (pv 0) pa_nil)))
      (pss_cons (ps_set (i := 2) sc.nd rfl (Or.inl rfl) pe_int)
      (pss_cons (ps_for PassesOwn.never rfl (k_enumT (K := K) rfl rfl hb_enumerate (pa_cons (pv 1) pa_nil)) (k_gTup (K := K) (n := 2) rfl rfl (pgs_cons (pg_name (i := 3) sc.nd rfl (Or.inl rfl)) (pgs_cons (pg_name (i := 4) sc.nd rfl (Or.inl rfl)) pgs_nil)))
      (pss_cons (ps_set (i := 5) sc.nd rfl (Or.inl rfl) (k_bm (K := K) rfl PySem.F.plainAttrs_list PySem.F.slot_list_index PySem.F.type_list_index (k_index (K := K) rfl) (pv 0) (pa_cons (pv 4) pa_nil)))
      (pss_cons (ps_aug (i := 2) sc.nd rfl (Or.inl rfl) (pe_op op_mulX (pv 5) (pcall hd_lines_of hr rfl (pa_cons (pe_op op_sub (pe_callB (k_len (K := K) rfl) (by rfl) hb_len PySem.boot_len (pa_cons (pv 0) pa_nil)) pe_int) (pa_cons (pe_op op_sub (pe_op op_sub (pe_callB (k_len (K := K) rfl) (by rfl) hb_len PySem.boot_len (pa_cons (pv 1) pa_nil)) (pv 3)) pe_int) pa_nil)))) ip_add)
      (pss_one (ps_expr (k_bm (K := K) rfl PySem.F.plainAttrs_list PySem.F.slot_list_pop PySem.F.type_list_pop mt_popAt (pv 0) (pa_cons (pv 5) pa_nil)))))))
      (pss_one (ps_ret (pv 2)))))), ?_⟩
  walk_at "go"
  refine r_lstOf (.inl ha) fun l H1 nl s1 hl => ?_
  walk_at "go"
  refine r_iteT (s1 _ _ hb) ?_
  refine forET (xs := nis line) (fun i σ H' => ∃ left' num x3 x4 x5, σ = [some (.ref l), some (.ref b), some (ni num), x3, x4, x5] ∧ Same H H' ∧ H' l = some (.lst (nis left')) ∧ left'.length ≤ 40 ∧ (∀ x ∈ line.drop i, x ∈ left') ∧ num + Obx.lineNo left' (line.drop i) = Obx.lineNo left line)
    ⟨left, 0, _, _, _, rfl, s1, hl, h40, sub, by rw [Nat.zero_add]; rfl⟩ (fun i σ H' _ ⟨_, _, _, _, _, _, s, _⟩ => s _ _ hb) ?_ ?_
  · rintro i x σ H2' H2 hi ⟨left', num, x3, x4, x5, rfl, s2', hl2', hl40, sub', e⟩ s22
    obtain ⟨hil, rfl⟩ := of_nis hi
    have s2 := s2'.trans s22
    have hl2 := s22 _ _ hl2'
    rw [List.drop_eq_getElem_cons hil] at e sub'
    have hmem : line[i] ∈ left' := sub' _ List.mem_cons_self
    have hix := List.idxOf_lt_length_of_mem hmem
    have nd' : (line[i] :: line.drop (i + 1)).Nodup := by
      rw [← List.drop_eq_getElem_cons hil]
      exact nd.sublist (List.drop_sublist _ _)
    have hll := nd_len _ _ nd' sub'
    rw [List.length_cons, List.length_drop] at hll
    have hdr : (line.drop (i + 1)).length = line.length - i - 1 := by rw [List.length_drop]; omega
    walk_at "go"
    refine r_bmL hl2 ?_
    walk_at "go"
    refine r_index hl2 hmem ?_
    walk_at "go"
    refine r_lenL hl2 ?_
    rw [nis_len]
    walk_at "go"
    refine r_lenT (s2 _ _ hb) ?_
    rw [nis_len]
    walk_at "go"
    have e2 : ((left'.length : Int) - 1) = ((left'.length - 1 : Nat) : Int) := by omega
    have e3 : ((line.length : Int) - (i : Int) - 1) = ((line.length - i - 1 : Nat) : Int) := by omega
    rw [e2, e3]
    refine ⟨left'.length - 1, line.length - i - 1, rfl, by omega, by omega, fun H3 s3 => ?_⟩
    refine r_mul (s600 (by omega)) (f600 (dfac_fact' _ _) (by omega)) ?_
    walk_at "go"
    refine r_bmL (s3 _ _ hl2) ?_
    walk_at "go"
    refine r_popAt (s3 _ _ hl2) hix (by omega) fun H4 b4 hl4 => ?_
    have hle := List.length_eraseIdx_of_lt hix
    refine ⟨left'.eraseIdx (left'.idxOf line[i]), num + left'.idxOf line[i] * Obx.dfac (left'.length - 1) (line.length - i - 1), _, _, _, rfl, but_same (s2.trans s3) nl b4, hl4, by omega, fun x hx => ?_, ?_⟩
    · rw [erase_ix _ _ hmem]
      exact (List.mem_erase_of_ne (fun (z : x = line[i]) => (List.nodup_cons.mp nd').1 (z ▸ hx))).mpr (sub' x (List.mem_cons_of_mem _ hx))
    · rw [← e, Nat.add_assoc]
      show _ = num + (left'.idxOf line[i] * Obx.dfac (left'.length - 1) (line.drop (i + 1)).length + Obx.lineNo (left'.eraseIdx (left'.idxOf line[i])) (line.drop (i + 1)))
      rw [hdr]
  · rintro σ H2 ⟨left', num, x3, x4, x5, rfl, s2, hl2, hl40, sub', e⟩
    rw [nis_len, List.drop_eq_nil_of_le (Nat.le_refl _)] at e
    have e' : num = Obx.lineNo left line := e
    walk_at "go"
    rw [e']
    exact k H2 s2
end
section
variable {P : Program} {w : World} {K : PySem.W.Frag} {mg : Str → Option Value} {base : Heap}
theorem r_cat {H : Hp} {Q : VK} {l b : Addr} {xs zs : List V} (h : H l = some (.lst xs)) (hb : H b = some (.lst zs)) (hz : xs.length + zs.length ≤ sizeLine) (q : ∀ p H', H p = none → Same H H' → H' p = some (.lst (xs ++ zs)) → Q (.ref p) H') : rCat (.ref l) (.ref b) H Q :=
  ⟨l, b, xs, zs, rfl, rfl, h, hb, hz, fun p hp => q p _ hp (Same.new hp) upd_same⟩
theorem r_lstRg0 {H : Hp} {Q : VK} {n : Nat} (hz : n ≤ 1000) (h : ∀ p H', H p = none → Same H H' → H' p = some (.lst (nis (List.range n))) → Q (.ref p) H') : RgOk 0 (n : Int) ∧ NewL (rgV 0 (n : Int)) Q H :=
  ⟨RgOk.of_le (by omega) (by omega) (by omega) (by omega), by rw [rgV_nis]; exact newL h⟩
theorem r_tupRg0 {H : Hp} {Q : VK} {n : Nat} (hz : n ≤ 1000) (h : ∀ p H', H p = none → Same H H' → H' p = some (.tup (nis (List.range n))) → Q (.ref p) H') : RgOk 0 (n : Int) ∧ NewT (rgV 0 (n : Int)) Q H :=
  ⟨RgOk.of_le (by omega) (by omega) (by omega) (by omega), by rw [rgV_nis]; exact newT h⟩
theorem sx1 {n : Nat} (h : 1 ≤ n) (d : Nat) : HT.sIx n d (some 1) = 1 := by
  have := HT.sIx_nat n d 1
  rw [show ((1 : Nat) : Int) = 1 from rfl] at this
  rw [this]
  omega
theorem r_tail {K : PySem.W.Frag} {H : Hp} {Q : VK} {a : Addr} {x : V} {xs : List V} (h : H a = some (.tup (x :: xs))) (q : ∀ p H', H p = none → Same H H' → H' p = some (.tup xs) → Q (.ref p) H') : rSlA K (.ref a) (some 1) none H Q := by
  have e := sx1 (n := (x :: xs).length) (by simp) 0
  refine ⟨a, x :: xs, rfl, SqT.of h, fun z => ?_, fun _ p hp => q p _ hp (Same.new hp) ?_⟩
  · rw [e] at z
    exact absurd z.1 (by decide)
  · rw [upd_same]
    unfold cutV
    rw [e, HT.sIx_none]
    congr 2
    simp
theorem filt_cons {first : Nat} {left line : List Nat} (h : first ∉ left) : (left.filter fun b => !decide (b ∈ first :: line)) = left.filter fun b => decide (b ∉ line) := by
  apply List.filter_congr
  intro x hx
  have : x ≠ first := fun z => h (z ▸ hx)
  simp [this]
theorem canon_cons {left r : List Nat} {rs : List (List Nat)} (c : Obx.Canon left (r :: rs)) : ∃ first left2 line, left = first :: left2 ∧ r = first :: line ∧ line.Nodup ∧ (∀ x ∈ line, x ∈ left2) ∧ Obx.Canon (left2.filter fun b => decide (b ∉ line)) rs := by
  cases c with
  | cons nd sub h => exact ⟨_, _, _, rfl, rfl, nd, sub, h⟩
theorem prod600 {k m s j : Nat} (hm : m ≤ 40) (hj : j ≤ 40) : Obx.dfac m s < 2 ^ 600 ∧ Obx.gg 1 k j < 2 ^ 600 := ⟨f600 (dfac_fact' m s) hm, f600 (Obx.gg_fact 1 k j) hj⟩
/-! ### good_at -/
theorem ok_good_at {f : Addr} {fd : FuncData} (F : FnP K "good_at" sgood_at f fd) (hd_by_rings : Dc P w K mg base "by_rings" ["people", "least", "most"] 1 sp_by_rings) (hd_line_at : Dc P w K mg base "line_at" ["left", "some", "number"] 2 sp_line_at) (hd_lines_of : Dc P w K mg base "lines_of" ["many", "some"] 1 sp_lines_of) (hd_look_at_counts : Dc P w K mg base "look_at_counts" ["people", "k"] 1 sp_look_at_counts) (hd_order_by : Dc P w K mg base "order_by" ["rings"] 2 sp_order_by) (hb_len : mg "len" = none) (hb_list : mg "list" = none) (hb_range : mg "range" = none) (hb_tuple : mg "tuple" = none) : FnOk P w K mg base CX0 3 f fd ["people", "k", "number"] sp_good_at := by
  have sc : FnScope ["people", "k", "number", "good", "left", "rings", "first", "boxes", "rest", "line", "box"] ["people", "k", "number"] (defScope sgood_at) := ⟨rfl, rfl, rfl, by decide +kernel, rfl, by decide +kernel, by decide +kernel⟩
  refine F.ok sc (fun vs H Q E h => by (obtain ⟨_, _, _, rfl, _⟩ := h; rfl)) (fun cdv A outer s H vs Q E hr h => ?_)
  have hu64 := hu64_of hr

  obtain ⟨n, kk, num, rfl, h1, h40, hk, hn, k⟩ := h
  refine ⟨_, PSs.nox (pss_cons (ps_if (pt_cmpR op_lt (pv 0) pe_int (nomark _)) (pss_one ps_never) pss_nil)
      (pss_cons (ps_expr (pcall hd_look_at_counts hr rfl (pa_cons (pv 0) (pa_cons (pv 1) pa_nil))))
      (pss_cons (ps_set (i := 3) sc.nd rfl (Or.inl rfl) (pcall hd_by_rings hr rfl (pa_cons (pv 0) (pa_cons pe_int (pa_cons (pv 1) pa_nil)))))
      (pss_cons (ps_if (PW.pt (pw_or (pt_cmpR op_lt (pv 2) pe_int (nomark _)) (pw_or1 (pt_cmpR op_ge (pv 2) (pe_ix (k_ixL (K := K) rfl) (pv 3) (pv 0) (fun _ _ => rfl)) (nomark _))))) (pss_one ps_never) pss_nil)
      (pss_cons (ps_set (i := 4) sc.nd rfl (Or.inl rfl) (pe_listRg rfl (by rfl) hb_list (prg_1 (by rfl) hb_range (pv 0))))
      (pss_cons (ps_set (i := 5) sc.nd rfl (Or.inl rfl) (pe_lst pa_nil))
      (pss_cons (ps_while PassesOwn.never (pt_cmpR (k_neD (K := K) rfl hu64) (pv 4) (pe_lst pa_nil) (nomark _))
      (pss_cons (ps_set (i := 6) sc.nd rfl (Or.inl rfl) (k_bm (K := K) rfl PySem.F.plainAttrs_list PySem.F.slot_list_pop PySem.F.type_list_pop mt_popAt (pv 4) (pa_cons pe_int pa_nil)))
      (pss_cons (ps_set (i := 7) sc.nd rfl (Or.inl rfl) pe_int)
      (pss_cons (ps_while PassesOwn.never (pt_cmpR op_ge (pv 2) (pe_op op_mulX (pcall hd_lines_of hr rfl (pa_cons (pe_callB (k_len (K := K) rfl) (by rfl) hb_len PySem.boot_len (pa_cons (pv 4) pa_nil)) (pa_cons (pe_op op_sub (pv 7) pe_int) pa_nil))) (pe_ix (k_ixL (K := K) rfl) (pv 3) (pe_op op_sub (pe_op op_add (pe_callB (k_len (K := K) rfl) (by rfl) hb_len PySem.boot_len (pa_cons (pv 4) pa_nil)) pe_int) (pv 7)) (fun _ _ => rfl))) (nomark _))
      (pss_cons (ps_aug (i := 2) sc.nd rfl (Or.inl rfl) (pe_op op_mulX (pcall hd_lines_of hr rfl (pa_cons (pe_callB (k_len (K := K) rfl) (by rfl) hb_len PySem.boot_len (pa_cons (pv 4) pa_nil)) (pa_cons (pe_op op_sub (pv 7) pe_int) pa_nil))) (pe_ix (k_ixL (K := K) rfl) (pv 3) (pe_op op_sub (pe_op op_add (pe_callB (k_len (K := K) rfl) (by rfl) hb_len PySem.boot_len (pa_cons (pv 4) pa_nil)) pe_int) (pv 7)) (fun _ _ => rfl))) ip_sub)
      (pss_one (ps_aug (i := 7) sc.nd rfl (Or.inl rfl) pe_int ip_add))))
      (pss_cons (ps_set (i := 8) sc.nd rfl (Or.inl rfl) (pe_ix (k_ixL (K := K) rfl) (pv 3) (pe_op op_sub (pe_op op_add (pe_callB (k_len (K := K) rfl) (by rfl) hb_len PySem.boot_len (pa_cons (pv 4) pa_nil)) pe_int) (pv 7)) (fun _ _ => rfl)))
      (pss_cons (ps_set (i := 9) sc.nd rfl (Or.inr rfl) (pcall hd_line_at hr rfl (pa_cons (pv 4) (pa_cons (pe_op op_sub (pv 7) pe_int) (pa_cons (pe_op op_fdivW (pv 2) (pv 8)) pa_nil)))))
      (pss_cons (ps_set (i := 2) sc.nd rfl (Or.inl rfl) (pe_op op_mod (pv 2) (pv 8)))
      (pss_cons (ps_expr (k_bm (K := K) rfl PySem.F.plainAttrs_list PySem.F.slot_list_append PySem.F.type_list_append mt_append (pv 5) (pa_cons (pe_callTy (k_tupOf (K := K) rfl) (by rfl) hb_tuple (by decide +kernel) (pa_cons (pe_op op_cat (pe_lst (pa_cons (pv 6) pa_nil)) (pv 9)) pa_nil)) pa_nil)))
      (pss_one (ps_setLc (i := 4) (own := [("box", 10)]) rfl sc.nd rfl rfl (sw_true rfl rfl rfl (by decide +kernel)) (k_list (K := K) rfl (pv 4)) (blkOk_by (N := ["people", "k", "number", "good", "left", "rings", "first", "boxes", "rest", "line", "box"]) (sc := defScope sgood_at) (by decide +kernel)) (fun _ _ _ _ _ => (pg_name (i := 10) sc.nd rfl (Or.inl rfl))) (fun _ _ _ _ _ => (pts_one (pt_cmpR (k_nin (K := K) rfl) (pv 10) (pv 9) (by rfl)))) (fun _ _ _ _ _ => (pv 10))))))))))))
      (pss_one (ps_ret (pcall hd_order_by hr rfl (pa_cons (pv 5) pa_nil))))))))))), ?_⟩
  walk_at "go"
  refine ifDF (by omega) ?_
  walk_at "go"
  refine ⟨n, kk, rfl, by omega, fun H1 s1 => ?_⟩
  walk_at "go"
  refine ⟨n, 1, kk, rfl, h40, fun g H2 ng s2 hg => ?_⟩
  walk_at "go"
  refine ifDF (by omega) ?_
  walk_at "go"
  refine r_ixL hg (at_n (i := n) (by rw [List.getElem?_map, Obx.gl_get 1 kk (Nat.le_refl n)]; rfl)) ?_
  walk_at "go"
  refine ifDF (by have : num < Obx.gg 1 kk n := hn; omega) ?_
  walk_at "go"
  refine r_lstRg0 (n := n) (by omega) fun l H3 nl s3 hl => ?_
  walk_at "go"
  refine new_lst (by show 0 ≤ sizeLine; decide) fun rl H4 nrl s4 hrl => ?_
  have s02 := s1.trans s2
  have s03 := s02.trans s3
  have ok := Obx.good_ok hk n (List.range n) num List.nodup_range (by rw [List.length_range]; exact Nat.le_refl _) (by rw [List.length_range]; exact hn)
  have glk : l ≠ g := fun z => by rw [z, hg] at nl; cases nl
  have rlg : g ≠ rl := fun z => by rw [← z, s3 _ _ hg] at nrl; cases nrl
  have rll : l ≠ rl := fun z => by rw [← z, hl] at nrl; cases nrl
  walk_at "go"
  refine ⟨fun m σ H' => ∃ l left' num' rs as f x6 x7 x8 x9 x10, σ = [some (ni n), some (ni kk), some (ni num'), some (.ref g), some (.ref l), some (.ref rl), x6, x7, x8, x9, x10] ∧ Same H2 H' ∧ H2 l = none ∧ l ≠ g ∧ l ≠ rl ∧ H' l = some (.lst (nis left')) ∧
    H' rl = some (.lst (refs as)) ∧ RT H' as rs ∧ left'.length = m ∧ left'.length ≤ f ∧ left'.Nodup ∧ num' < Obx.G kk left'.length ∧ rs.length + left'.length ≤ n ∧ rs ++ Obx.goodRings kk f left' num' = Obx.goodRings kk n (List.range n) num,
    ⟨n, l, List.range n, num, [], [], n, _, _, _, _, _, rfl, s3.trans s4, nl, glk, rll, s4 _ _ hl, hrl, .nil, List.length_range, by rw [List.length_range]; exact Nat.le_refl _, List.nodup_range, by rw [List.length_range]; exact hn, by rw [List.length_range]; simp, rfl⟩, ?_⟩
  rintro m σ H5 ⟨l, left', num', rs, as, f, x6, x7, x8, x9, x10, rfl, s5, nl, glk, rll, hl5, hrl5, rt5, hlen, hf, hnd, hnum, h40', e⟩
  walk_at "go"
  refine new_lst (by show 0 ≤ sizeLine; decide) fun z H6 nz s6 hz => ?_
  refine r_neLL (m := []) (s6 _ _ hl5) hz ?_
  walk_at "go"
  refine ifN (fun hne => ?_) (fun he => ?_)
  · obtain ⟨first, left2, rfl⟩ := List.exists_cons_of_ne_nil hne
    have hlc : (first :: left2).length = left2.length + 1 := rfl
    rw [hlc] at hlen hf hnum h40'
    have hnd1 := List.nodup_cons.mp hnd
    obtain ⟨f, rfl⟩ : ∃ q, f = q + 1 := ⟨f - 1, by omega⟩
    obtain ⟨m, rfl⟩ : ∃ q, m = q + 1 := ⟨m - 1, by omega⟩
    have hm : left2.length = m := by omega
    have s26 := s5.trans s6
    have rl2 : H2 rl = none := s3.free nrl
    have rl0 : H rl = none := s02.free rl2
    refine ⟨_, fun σ' H' hN => hN, ?_⟩
    walk_at "go"
    refine r_bmL (s6 _ _ hl5) ?_
    walk_at "go"
    refine r_popAt (l := first :: left2) (i := 0) (s6 _ _ hl5) (by simp) (by rw [hlc]; omega) fun H7 b7 hl7 => ?_
    have hl7' : H7 l = some (.lst (nis left2)) := hl7
    have s27 : Same H2 H7 := but_same s26 nl b7
    have hg7 := s27 _ _ hg
    have hrl7 := but_at b7 (s6 _ _ hrl5) rll.symm
    have rt7 := (rt5.same s6).but (s6 _ _ hl5) b7
    walk_at "go"
    refine ⟨fun q σ H' => ∃ b x x8 x9 x10, σ = [some (ni n), some (ni kk), some (ni x), some (.ref g), some (.ref l), some (.ref rl), some (ni first), some (ni b), x8, x9, x10] ∧ Same H7 H' ∧ Obx.FindAt kk left2.length b x num' ∧ left2.length + 2 ≤ q + b ∧ Obx.findB (Obx.G kk) left2.length q b x = Obx.found kk left2.length num',
      ⟨left2.length + 1, 1, num', _, _, _, rfl, Same.refl H7, Obx.findAt_start hk, by omega, rfl⟩, ?_⟩
    rintro q σ H8 ⟨b, x, y8, y9, y10, rfl, s8, FA, hq, hfo⟩
    have hb1 := FA.pos
    have hbm := FA.hm
    have p6 := prod600 (k := kk) (m := left2.length) (s := b - 1) (j := left2.length + 1 - b) (by omega) (by omega)
    have e1 : ((b : Int) - 1) = ((b - 1 : Nat) : Int) := by omega
    have e2 : ((left2.length : Int) + 1 - (b : Int)) = ((left2.length + 1 - b : Nat) : Int) := by omega
    have ggx : (nis (Obx.gl 1 kk n))[left2.length + 1 - b]? = some (ni (Obx.gg 1 kk (left2.length + 1 - b))) := by rw [List.getElem?_map, Obx.gl_get 1 kk (by omega)]; rfl
    walk_at "go"
    refine r_lenL (s8 _ _ hl7') ?_
    rw [nis_len]
    walk_at "go"
    rw [e1]
    refine ⟨left2.length, b - 1, rfl, by omega, by omega, fun H9 s9 => ?_⟩
    walk_at "go"
    refine r_lenL (s9 _ _ (s8 _ _ hl7')) ?_
    rw [nis_len]
    walk_at "go"
    rw [e2]
    refine r_ixL (s9 _ _ (s8 _ _ hg7)) (at_n ggx) ?_
    walk_at "go"
    refine r_mul p6.1 p6.2 ?_
    walk_at "go"
    rw [not_ge]
    refine ifD (fun hc => ?_) (fun hc => ?_)
    · obtain ⟨q, rfl⟩ : ∃ z, q = z + 1 := ⟨q - 1, by omega⟩
      refine ⟨_, fun σ' H' hN => hN, ?_⟩
      have s89 := s8.trans s9
      walk_at "go"
      refine r_lenL (s89 _ _ hl7') ?_
      rw [nis_len]
      walk_at "go"
      rw [e1]
      refine ⟨left2.length, b - 1, rfl, by omega, by omega, fun H10 s10 => ?_⟩
      walk_at "go"
      refine r_lenL (s10 _ _ (s89 _ _ hl7')) ?_
      rw [nis_len]
      walk_at "go"
      rw [e2]
      refine r_ixL (s10 _ _ (s89 _ _ hg7)) (at_n ggx) ?_
      walk_at "go"
      refine r_mul p6.1 p6.2 ?_
      walk_at "go"
      rw [ni_sub hc]
      refine ⟨q, Nat.lt_succ_self q, b + 1, x - Obx.dfac left2.length (b - 1) * Obx.G kk (left2.length + 1 - b), _, _, _, rfl, s89.trans s10, FA.step hnum hc, by omega, ?_⟩
      rw [← hfo]
      show _ = if _ then _ else _
      rw [if_pos hc]
    · have hfo' : Obx.found kk left2.length num' = (b, x) := by
        rw [← hfo]
        cases q with
        | zero => rfl
        | succ q =>
          show (if _ then _ else _) = _
          rw [if_neg hc]
      have hL := Obx.gLine_ok hk hnd1.2 (num := num') hnum
      have gr := Obx.gRest_lt (k := kk) (m := left2.length) (num := num') hk
      have gL : Obx.gLine kk left2 num' = Obx.lineAt left2 (b - 1) (x / Obx.G kk (left2.length + 1 - b)) := by unfold Obx.gLine; rw [hfo']
      have gR : Obx.gRest kk left2.length num' = x % Obx.G kk (left2.length + 1 - b) := by unfold Obx.gRest; rw [hfo']
      rw [hfo'] at hL gr
      obtain ⟨FO, gp, LO⟩ := hL
      have s89 := s8.trans s9
      walk_at "go"
      refine r_lenL (s89 _ _ hl7') ?_
      rw [nis_len]
      walk_at "go"
      rw [e2]
      refine r_ixL (s89 _ _ hg7) (at_n ggx) ?_
      walk_at "go"
      rw [e1]
      refine r_div gp p6.2 ?_
      walk_at "go"
      refine ⟨l, b - 1, x / Obx.G kk (left2.length + 1 - b), left2, rfl, s89 _ _ hl7', by omega, by omega, (Nat.div_lt_iff_lt_mul gp).mpr FO.lt, fun ln H10 nln s10 hln => ?_⟩
      rw [← gL] at hln
      walk_at "go"
      refine r_mod gp ?_
      walk_at "go"
      have s810 := s89.trans s10
      refine r_bmL (s810 _ _ hrl7) ?_
      walk_at "go"
      refine new_lst (by show 1 ≤ sizeLine; decide) fun u H11 nu s11 hu => ?_
      walk_at "go"
      have hll := LO.len
      have hl0 := nd_len _ _ LO.nd LO.sub
      refine r_cat (zs := nis (Obx.gLine kk left2 num')) hu (s11 _ _ hln) (small (by rw [nis_len, List.length_singleton]; omega)) fun v H12 nv s12 hv => ?_
      walk_at "go"
      refine r_tupL hv fun t H13 nt s13 ht => ?_
      walk_at "go"
      have s813 := (s810.trans s11).trans (s12.trans s13)
      refine r_app (s813 _ _ hrl7) (smaller (by rw [List.length_map, rt7.len]; omega)) fun H14 b14 hrl14 => ?_
      have rtt : t ≠ rl := fun z => by rw [z, ((s810.trans s11).trans s12) _ _ hrl7] at nt; cases nt
      have nln7 : H7 ln = none := s89.free nln
      have rln : ln ≠ rl := fun z => by rw [z, hrl7] at nln7; cases nln7
      have hl14 := but_at b14 (s813 _ _ hl7') rll
      have hln14 := but_at b14 ((s11.trans (s12.trans s13)) _ _ hln) rln
      have s214 : Same H2 H14 := but_same (s27.trans s813) rl2 b14
      walk_at "go"
      refine r_itl hl14 ?_
      refine lcF (fun b => !decide (b ∈ Obx.gLine kk left2 num')) hl14 (by omega) ?_ (by simp) fun D H15 nD s15 hD => ?_
      · intro i hi H15 R s15 kR
        walk_at "go"
        refine r_ninL (s15 _ _ hln14) ?_
        walk_at "go"
        exact kR H15 (Same.refl _)
      · have ef : (left2.filter fun b => !decide (b ∈ Obx.gLine kk left2 num')) = left2.filter fun b => decide (b ∉ Obx.gLine kk left2 num') := by
          apply List.filter_congr
          intro x _
          simp
        rw [ef] at hD
        have fl := Obx.filter_len hnd1.2 LO.nd LO.sub
        have eml : (left2.filter fun b => decide (b ∉ Obx.gLine kk left2 num')).length = left2.length + 1 - b := by omega
        rw [← gR]
        refine ⟨(left2.filter fun b => decide (b ∉ Obx.gLine kk left2 num')).length, by omega, D, left2.filter fun b => decide (b ∉ Obx.gLine kk left2 num'), Obx.gRest kk left2.length num', rs ++ [first :: Obx.gLine kk left2 num'], as ++ [t], f, _, _, _, _, _, rfl, s214.trans s15, s214.free nD, (fun z => by
          rw [z, s214 _ _ hg] at nD; cases nD), (fun z => by rw [z, hrl14] at nD; cases nD), hD, by rw [s15 _ _ hrl14, refs_snoc], ?_, rfl, by omega, hnd1.2.filter _, by rw [eml]; exact gr, by rw [List.length_append, List.length_singleton]; omega, by rw [List.append_assoc]; exact e⟩
        refine (((rt7.same s813).but (s813 _ _ hrl7) b14).same s15).snoc ?_
        rw [s15 _ _ (but_at b14 ht rtt)]
        rfl
  · have hle : left' = [] := he
    subst hle
    have e' : rs = Obx.goodRings kk n (List.range n) num := by
      rw [← e]
      cases f <;> simp [Obx.goodRings]
    subst e'
    walk_at "go"
    refine ⟨rl, n, _, rfl, ⟨as, s6 _ _ hrl5, (rt5.same s6).q⟩, ⟨ok.1.perm List.nodup_range, ok.1.ne⟩, h1, by omega, fun p H7 np s7 hp => ?_⟩
    have s06 := s02.trans (s5.trans s6)
    exact k p H7 (s06.free np) (s06.trans s7) hp
end
section
variable {P : Program} {w : World} {K : PySem.W.Frag} {mg : Str → Option Value} {base : Heap}
theorem drop_cons_of {α : Type} {l : List α} {i : Nat} {a : α} (h : l[i]? = some a) : l.drop i = a :: l.drop (i + 1) := by
  obtain ⟨hi, rfl⟩ := List.getElem?_eq_some_iff.mp h
  exact List.drop_eq_getElem_cons hi
/-! ### good_number -/
theorem ok_good_number {f : Addr} {fd : FuncData} (F : FnP K "good_number" sgood_number f fd) (hd_by_rings : Dc P w K mg base "by_rings" ["people", "least", "most"] 1 sp_by_rings) (hd_line_number : Dc P w K mg base "line_number" ["left", "line"] 2 sp_line_number) (hd_lines_of : Dc P w K mg base "lines_of" ["many", "some"] 1 sp_lines_of) (hd_look_at_counts : Dc P w K mg base "look_at_counts" ["people", "k"] 1 sp_look_at_counts) (hd_rings_of : Dc P w K mg base "rings_of" ["order"] 2 sp_rings_of) (hb_len : mg "len" = none) (hb_list : mg "list" = none) (hb_max : mg "max" = none) (hb_range : mg "range" = none) : FnOk P w K mg base CX0 3 f fd ["order", "k"] sp_good_number := by
  have sc : FnScope ["order", "k", "rings", "ring", "good", "left", "number", "boxes", "box"] ["order", "k"] (defScope sgood_number) := ⟨rfl, rfl, rfl, by decide +kernel, rfl, by decide +kernel, by decide +kernel⟩
  refine F.ok sc (fun vs H Q E h => by (obtain ⟨_, _, _, rfl, _⟩ := h; rfl)) (fun cdv A outer s H vs Q E hr h => ?_)

  obtain ⟨a, kk, o, rfl, ha, io, h1, h40, hk, can, k⟩ := h
  refine ⟨_, PSs.nox (pss_cons (ps_expr (pcall hd_look_at_counts hr rfl (pa_cons (pe_callB (k_len (K := K) rfl) (by rfl) hb_len PySem.boot_len (pa_cons (pv 0) pa_nil)) (pa_cons (pv 1) pa_nil))))
      (pss_cons (ps_set (i := 2) sc.nd rfl (Or.inl rfl) (pcall hd_rings_of hr rfl (pa_cons (pv 0) pa_nil)))
      (pss_cons (ps_if (pt_cmpR op_gt (pe_callB (k_max (K := K) rfl rfl) (by rfl) hb_max (by decide +kernel) (pa_cons (pe_lc (own := [("ring", 3)]) rfl sc.nd (k_list (K := K) rfl (pv 2)) (blkOk_by (N := ["order", "k", "rings", "ring", "good", "left", "number", "boxes", "box"]) (sc := defScope sgood_number) (by decide +kernel)) (fun _ _ _ _ _ => (pg_name (i := 3) sc.nd rfl (Or.inl rfl))) (fun _ _ _ _ _ => pts_nil) (fun _ _ _ _ _ => (pe_callB (k_len (K := K) rfl) (by rfl) hb_len PySem.boot_len (pa_cons (pv 3) pa_nil)))) pa_nil)) (pv 1) (nomark _)) (pss_one ps_never) pss_nil)
      (pss_cons (ps_set (i := 4) sc.nd rfl (Or.inl rfl) (pcall hd_by_rings hr rfl (pa_cons (pe_callB (k_len (K := K) rfl) (by rfl) hb_len PySem.boot_len (pa_cons (pv 0) pa_nil)) (pa_cons pe_int (pa_cons (pv 1) pa_nil)))))
      (pss_cons (ps_set (i := 5) sc.nd rfl (Or.inl rfl) (pe_listRg rfl (by rfl) hb_list (prg_1 (by rfl) hb_range (pe_callB (k_len (K := K) rfl) (by rfl) hb_len PySem.boot_len (pa_cons (pv 0) pa_nil)))))
      (pss_cons (ps_set (i := 6) sc.nd rfl (Or.inl rfl) pe_int)
      (pss_cons (ps_for PassesOwn.never rfl (k_list (K := K) rfl (pv 2)) (pg_name (i := 3) sc.nd rfl (Or.inr rfl))
      (pss_cons (ps_expr (k_bm (K := K) rfl PySem.F.plainAttrs_list PySem.F.slot_list_pop PySem.F.type_list_pop mt_popAt (pv 5) (pa_cons pe_int pa_nil)))
      (pss_cons (ps_for PassesOwn.never rfl (pi_range2 rfl hb_range (pa_cons pe_int (pa_cons (pe_callB (k_len (K := K) rfl) (by rfl) hb_len PySem.boot_len (pa_cons (pv 3) pa_nil)) pa_nil))) (pg_name (i := 7) sc.nd rfl (Or.inl rfl))
      (pss_one (ps_aug (i := 6) sc.nd rfl (Or.inl rfl) (pe_op op_mulX (pcall hd_lines_of hr rfl (pa_cons (pe_callB (k_len (K := K) rfl) (by rfl) hb_len PySem.boot_len (pa_cons (pv 5) pa_nil)) (pa_cons (pe_op op_sub (pv 7) pe_int) pa_nil))) (pe_ix (k_ixL (K := K) rfl) (pv 4) (pe_op op_sub (pe_op op_add (pe_callB (k_len (K := K) rfl) (by rfl) hb_len PySem.boot_len (pa_cons (pv 5) pa_nil)) pe_int) (pv 7)) (fun _ _ => rfl))) ip_add)))
      (pss_cons (ps_aug (i := 6) sc.nd rfl (Or.inl rfl) (pe_op op_mulX (pcall hd_line_number hr rfl (pa_cons (pv 5) (pa_cons (pe_slice (k_slT (K := K) rfl) (pv 3) (po_some pe_int) po_none) pa_nil))) (pe_ix (k_ixL (K := K) rfl) (pv 4) (pe_op op_sub (pe_op op_add (pe_callB (k_len (K := K) rfl) (by rfl) hb_len PySem.boot_len (pa_cons (pv 5) pa_nil)) pe_int) (pe_callB (k_len (K := K) rfl) (by rfl) hb_len PySem.boot_len (pa_cons (pv 3) pa_nil))) (fun _ _ => rfl))) ip_add)
      (pss_one (ps_setLc (i := 5) (own := [("box", 8)]) rfl sc.nd rfl rfl (sw_true rfl rfl rfl (by decide +kernel)) (k_list (K := K) rfl (pv 5)) (blkOk_by (N := ["order", "k", "rings", "ring", "good", "left", "number", "boxes", "box"]) (sc := defScope sgood_number) (by decide +kernel)) (fun _ _ _ _ _ => (pg_name (i := 8) sc.nd rfl (Or.inl rfl))) (fun _ _ _ _ _ => (pts_one (pt_cmpR (k_nin (K := K) rfl) (pv 8) (pv 3) (by rfl)))) (fun _ _ _ _ _ => (pv 8))))))))
      (pss_one (ps_ret (pv 6)))))))))), ?_⟩
  obtain ⟨rl, rs⟩ := rings_small io
  walk_at "go"
  refine r_lenT ha ?_
  rw [nis_len]
  walk_at "go"
  refine ⟨o.length, kk, rfl, by omega, fun H1 s1 => ?_⟩
  walk_at "go"
  refine ⟨a, o, rfl, s1 _ _ ha, io, by omega, fun p H2 np s2 ⟨as, hp, rt⟩ => ?_⟩
  have hne : 0 < (Obx.rings o).length := by
    have := Obx.rings_parts io
    rcases Nat.eq_zero_or_pos (Obx.rings o).length with z | z
    · have e := this.cover.len
      rw [List.length_eq_zero_iff.mp z] at e
      have : 0 = o.length := e
      omega
    · exact z
  walk_at "go"
  refine r_itl hp ?_
  refine lcL (xs := refs as) (fun i => ni ((Obx.rings o).getD i []).length) hp (by rw [List.length_map, rt.len]; omega) ?_ fun D H3 nD s3 hD => ?_
  · intro i x H3 R hi s3 kR
    rw [List.getElem?_map] at hi
    obtain ⟨q, hq, rfl⟩ := Option.map_eq_some_iff.mp hi
    have hil : i < (Obx.rings o).length := by rw [← rt.len]; exact (List.getElem?_eq_some_iff.mp hq).1
    have hr := rt.at_ i q (Obx.rings o)[i] hq (List.getElem?_eq_getElem hil)
    have hg : (Obx.rings o).getD i [] = (Obx.rings o)[i] := by rw [List.getD_eq_getElem?_getD, List.getElem?_eq_getElem hil]; rfl
    walk_at "go"
    refine r_lenT (s3 _ _ hr) ?_
    rw [nis_len, ← hg]
    exact kR H3 (Same.refl _)
  have eD : (List.range (refs as).length).map (fun i => ni ((Obx.rings o).getD i []).length) = nis ((Obx.rings o).map List.length) := by
    have e0 : (refs as).length = (nis ((Obx.rings o).map List.length)).length := by rw [List.length_map, nis_len, List.length_map, rt.len]
    rw [e0]
    refine range_map_get fun i hi => ?_
    rw [nis_len, List.length_map] at hi
    rw [List.getElem?_map, List.getElem?_map, List.getD_eq_getElem?_getD, List.getElem?_eq_getElem hi]
    rfl
  rw [eD] at hD
  walk_at "go"
  refine r_maxL hD (by rw [List.length_map]; exact hne) fun m hm _ => ?_
  obtain ⟨r, hr, rfl⟩ := List.mem_map.mp hm
  have := hk r hr
  walk_at "go"
  refine ifDF (by omega) ?_
  walk_at "go"
  have s03 := (s1.trans s2).trans s3
  refine r_lenT (s03 _ _ ha) ?_
  rw [nis_len]
  walk_at "go"
  refine ⟨o.length, 1, kk, rfl, h40, fun g H4 ng s4 hg => ?_⟩
  have s04 := s03.trans s4
  walk_at "go"
  refine r_lenT (s04 _ _ ha) ?_
  rw [nis_len]
  walk_at "go"
  refine r_lstRg0 (n := o.length) (by omega) fun l H5 nl s5 hl => ?_
  walk_at "go"
  have s25 := (s3.trans s4).trans s5
  refine r_itl (s25 _ _ hp) ?_
  have glk : l ≠ g := fun z => by rw [z, hg] at nl; cases nl
  refine forL (xs := refs as) (fun i σ H' => ∃ l left' num' x3 x7 x8, σ = [some (.ref a), some (ni kk), some (.ref p), x3, some (.ref g), some (.ref l), some (ni num'), x7, x8] ∧ Same H4 H' ∧ H4 l = none ∧ H' l = some (.lst (nis left')) ∧ left'.Nodup ∧ left'.length ≤ o.length ∧ Obx.Canon left' ((Obx.rings o).drop i) ∧ num' + Obx.goodNo kk ((Obx.rings o).drop i) left' = Obx.goodNo kk (Obx.rings o) (List.range o.length))
    ⟨l, List.range o.length, 0, _, _, _, rfl, s5, nl, hl, List.nodup_range, by rw [List.length_range]; exact Nat.le_refl _, can, by rw [Nat.zero_add]; rfl⟩ (fun i σ H' _ ⟨_, _, _, _, _, _, _, s, _⟩ => s _ _ ((s3.trans s4) _ _ hp)) ?_ ?_
  · rintro i x σ H6 hi ⟨l, left', num', x3, x7, x8, rfl, s6, nl, hl6, nd, hlo, cn, e⟩
    rw [List.getElem?_map] at hi
    obtain ⟨q, hq, rfl⟩ := Option.map_eq_some_iff.mp hi
    have hil : i < (Obx.rings o).length := by rw [← rt.len]; exact (List.getElem?_eq_some_iff.mp hq).1
    have hr := rt.at_ i q (Obx.rings o)[i] hq (List.getElem?_eq_getElem hil)
    have hrk := hk _ (List.getElem_mem hil)
    rw [List.drop_eq_getElem_cons hil] at cn e
    generalize (Obx.rings o)[i] = r at *
    obtain ⟨first, left2, line, rfl, rfl, ndl, sub, cn2⟩ := canon_cons cn
    have nd2 := List.nodup_cons.mp nd
    have hlc : (first :: left2).length = left2.length + 1 := rfl
    have hrc : (first :: line).length = line.length + 1 := rfl
    have hll := nd_len _ _ ndl sub
    have hr6 := ((s3.trans s4).trans s6) _ _ hr
    have hg6 := s6 _ _ hg
    have hql : q ≠ l := fun z => by rw [z, hl6] at hr6; cases hr6
    rw [hlc] at hlo
    rw [hrc] at hrk
    walk_at "go"
    refine r_bmL hl6 ?_
    walk_at "go"
    refine r_popAt (l := first :: left2) (i := 0) hl6 (by simp) (by rw [hlc]; omega) fun H7 b7 hl7 => ?_
    have hl7' : H7 l = some (.lst (nis left2)) := hl7
    have s47 : Same H4 H7 := but_same s6 nl b7
    have hr7 := but_at b7 hr6 hql
    have hg7 := s47 _ _ hg
    walk_at "go"
    refine r_lenT hr7 ?_
    rw [nis_len, hrc]
    walk_at "go"
    refine r_rng2 ⟨by omega, by omega, by omega, by omega⟩ ?_
    have en : (((line.length + 1 : Nat) : Int) - 1).toNat = line.length := by omega
    rw [en]
    refine forR1 (fun c σ H' => ∃ x7, σ = [some (.ref a), some (ni kk), some (.ref p), some (.ref q), some (.ref g), some (.ref l), some (ni (num' + Obx.tot 1 kk (Obx.G kk) (left2.length + 1) c)), x7, x8] ∧ Same H7 H') ⟨_, rfl, Same.refl _⟩ ?_ ?_
    · rintro c σ H8 hc ⟨y7, rfl, s8⟩
      have p6 := prod600 (k := kk) (m := left2.length) (s := c) (j := left2.length + 1 - (c + 1)) (by omega) (by omega)
      have e1 : (((c + 1 : Nat) : Int) - 1) = (c : Int) := by omega
      have e2 : ((left2.length : Int) + 1 - ((c + 1 : Nat) : Int)) = ((left2.length + 1 - (c + 1) : Nat) : Int) := by omega
      walk_at "go"
      refine r_lenL (s8 _ _ hl7') ?_
      rw [nis_len]
      walk_at "go"
      rw [e1]
      refine ⟨left2.length, c, rfl, by omega, by omega, fun H9 s9 => ?_⟩
      walk_at "go"
      refine r_lenL (s9 _ _ (s8 _ _ hl7')) ?_
      rw [nis_len]
      walk_at "go"
      rw [e2]
      refine r_ixL (s9 _ _ (s8 _ _ hg7)) (at_n (v := ni (Obx.gg 1 kk (left2.length + 1 - (c + 1)))) (by rw [List.getElem?_map, Obx.gl_get 1 kk (by omega)]; rfl)) ?_
      refine r_mul p6.1 p6.2 ?_
      walk_at "go"
      refine ⟨some (ni (c + 1)), ?_, s8.trans s9⟩
      have et : Obx.tot 1 kk (Obx.G kk) (left2.length + 1) (c + 1) = Obx.tot 1 kk (Obx.G kk) (left2.length + 1) c + Obx.dfac left2.length c * Obx.gg 1 kk (left2.length + 1 - (c + 1)) := by
        show _ + (if _ then _ else _) = _
        rw [if_pos ⟨by omega, by omega⟩, Nat.add_sub_cancel]
      rw [et, ← Nat.add_assoc]
      rfl
    · rintro σ H8 ⟨y7, rfl, s8⟩
      have hr8 := s8 _ _ hr7
      walk_at "go"
      refine r_tail hr8 fun t H9 nt s9 ht => ?_
      walk_at "go"
      have s79 := s8.trans s9
      refine ⟨l, t, left2, line, rfl, s79 _ _ hl7', ht, ndl, sub, by omega, fun H10 s10 => ?_⟩
      walk_at "go"
      have s710 := s79.trans s10
      refine r_lenL (s710 _ _ hl7') ?_
      rw [nis_len]
      walk_at "go"
      refine r_lenT (s710 _ _ hr7) ?_
      rw [nis_len, hrc]
      walk_at "go"
      have e2 : ((left2.length : Int) + 1 - ((line.length + 1 : Nat) : Int)) = ((left2.length + 1 - (line.length + 1) : Nat) : Int) := by omega
      rw [e2]
      refine r_ixL (s710 _ _ hg7) (at_n (v := ni (Obx.gg 1 kk (left2.length + 1 - (line.length + 1)))) (by rw [List.getElem?_map, Obx.gl_get 1 kk (by omega)]; rfl)) ?_
      refine r_mul (lineNo600 (by omega) (by omega)) (f600 (Obx.gg_fact 1 kk _) (by omega)) ?_
      walk_at "go"
      refine r_itl (s710 _ _ hl7') ?_
      refine lcF (fun b => !decide (b ∈ first :: line)) (s710 _ _ hl7') (by omega) ?_ (by simp) fun D H11 nD s11 hD => ?_
      · intro j hj H11 R s11 kR
        walk_at "go"
        refine r_ninT (s11 _ _ (s710 _ _ hr7)) ?_
        walk_at "go"
        exact kR H11 (Same.refl _)
      · have ef := filt_cons (line := line) nd2.1
        rw [ef] at hD
        have s411 := (s47.trans s710)
        have e3 : (left2.filter fun b => decide (b ∉ first :: line)) = left2.filter fun b => decide (b ∉ line) := by
          rw [← ef]
          apply List.filter_congr
          intro x _
          simp
        have fl : (left2.filter fun b => decide (b ∉ line)).length ≤ left2.length := List.length_filter_le _ _
        refine ⟨D, left2.filter fun b => decide (b ∉ line), num' + Obx.tot 1 kk (Obx.G kk) (left2.length + 1) line.length + Obx.lineNo left2 line * Obx.gg 1 kk (left2.length + 1 - (line.length + 1)), _, _, _, rfl, s411.trans s11, s411.free nD, hD, nd2.2.filter _, by omega, cn2, ?_⟩
        rw [← e]
        show _ = num' + (Obx.tot 1 kk (Obx.G kk) (left2.length + 1) (line.length + 1 - 1) + Obx.lineNo left2 line * Obx.G kk (left2.length + 1 - (line.length + 1)) + Obx.goodNo kk _ (left2.filter fun b => decide (b ∉ first :: line)))
        rw [e3, Nat.add_sub_cancel, ← Nat.add_assoc, ← Nat.add_assoc]
  · rintro σ H6 ⟨l, left', num', x3, x7, x8, rfl, s6, nl, hl6, nd, hlo, cn, e⟩
    rw [List.length_map, rt.len, List.drop_eq_nil_of_le (Nat.le_refl _)] at e
    have e' : num' = Obx.goodNo kk (Obx.rings o) (List.range o.length) := e
    walk_at "go"
    rw [e']
    exact k H6 (s04.trans s6)
end
section
variable {P : Program} {w : World} {K : PySem.W.Frag} {mg : Str → Option Value} {base : Heap}
open SX (S)
theorem e_lp : Str.ofString "(" = S [40] := lit (by decide)
theorem e_rp : Str.ofString ")" = S [41] := lit (by decide)
theorem e_bl : Str.ofString " " = S [32] := lit (by decide)
theorem e_no : Str.ofString "" = S [] := lit (by decide)
theorem e_0 : Str.ofString "0" = S [48] := lit (by decide)
theorem e_rl : Str.ofString ")(" = S [41, 40] := lit (by decide)
theorem e_fig : Str.ofString "0123456789" = S [48, 49, 50, 51, 52, 53, 54, 55, 56, 57] := lit (by decide)
theorem S_ne {a b : List Nat} (h : a ≠ b) : ¬ (V.str (S a) = V.str (S b)) := fun z => h (SX.S_inj (V.str.inj z))
/-! ### ring_text, order_text -/
theorem ok_ring_text {f : Addr} {fd : FuncData} (F : FnP K "ring_text" sring_text f fd) (hb_str : mg "str" = none) : FnOk P w K mg base CX0 1 f fd ["ring"] sp_ring_text := by
  have sc : FnScope ["ring", "box"] ["ring"] (defScope sring_text) := ⟨rfl, rfl, rfl, by decide +kernel, rfl, by decide +kernel, by decide +kernel⟩
  refine F.ok sc (fun vs H Q E h => by (obtain ⟨_, _, rfl, _⟩ := h; rfl)) (fun cdv A outer s H vs Q E hr h => ?_)

  obtain ⟨a, r, rfl, ha, hl, hx, k⟩ := h
  refine ⟨_, PSs.nox (pss_one (ps_ret (pe_op op_addS (pe_op op_addS pe_str (pe_m1 PySem.F.slot_str_join PySem.F.type_str_join (k_join (K := K) rfl) pe_str (pe_lc (own := [("box", 1)]) rfl sc.nd (k_tup (K := K) rfl (pv 0)) (blkOk_by (N := ["ring", "box"]) (sc := defScope sring_text) (by decide +kernel)) (fun _ _ _ _ _ => (pg_name (i := 1) sc.nd rfl (Or.inl rfl))) (fun _ _ _ _ _ => pts_nil) (fun _ _ _ _ _ => (pe_callTy call_strA (by rfl) hb_str (by decide +kernel) (pa_cons (pv 1) pa_nil)))))) pe_str))), ?_⟩
  walk_at "go"
  rw [e_lp, e_rp, e_bl]
  refine r_itt ha ?_
  refine lcT (xs := nis r) (fun i => .str (S (TL.numL (r.getD i 0)))) ha (by rw [nis_len]; omega) ?_ fun D H1 nD s1 hD => ?_
  · intro i x H1 R hi s1 kR
    obtain ⟨hil, rfl⟩ := of_nis hi
    have hg : r.getD i 0 = r[i] := by rw [List.getD_eq_getElem?_getD, List.getElem?_eq_getElem hil]; rfl
    rw [hg] at kR
    walk_at "go"
    exact r_strI (s600 (hx _ (List.getElem_mem hil))) (kR H1 (Same.refl _))
  · have eD : (List.range (nis r).length).map (fun i => V.str (S (TL.numL (r.getD i 0)))) = txts (r.map TL.numL) := by
      have e0 : (nis r).length = (txts (r.map TL.numL)).length := by rw [nis_len, List.length_map, List.length_map]
      rw [e0]
      refine range_map_get fun i hi => ?_
      rw [List.length_map, List.length_map] at hi
      rw [List.getElem?_map, List.getElem?_map, List.getD_eq_getElem?_getD, List.getElem?_eq_getElem hi]
      rfl
    rw [eD] at hD
    refine r_join hD 4 (fun y hy => by
      obtain ⟨x, hx', rfl⟩ := List.mem_map.mp hy
      exact numL4 (hx x hx')) (by rw [List.length_map]; show r.length * (4 + 1) ≤ _; omega) ?_
    have hil := inner_len hx
    refine r_addS (a := [40]) (b := inner r) (by show 1 + (inner r).length ≤ _; omega) ?_
    walk_at "go"
    refine r_addS (a := [40] ++ inner r) (b := [41]) (by rw [List.length_append]; show 1 + (inner r).length + 1 ≤ _; omega) ?_
    have e : [40] ++ inner r ++ [41] = ringL r := by simp [ringL]
    rw [e]
    exact k H1 s1
theorem ok_order_text {f : Addr} {fd : FuncData} (F : FnP K "order_text" sorder_text f fd) (hd_ring_text : Dc P w K mg base "ring_text" ["ring"] 1 sp_ring_text) (hd_rings_of : Dc P w K mg base "rings_of" ["order"] 2 sp_rings_of) : FnOk P w K mg base CX0 3 f fd ["order"] sp_order_text := by
  have sc : FnScope ["order", "ring"] ["order"] (defScope sorder_text) := ⟨rfl, rfl, rfl, by decide +kernel, rfl, by decide +kernel, by decide +kernel⟩
  refine F.ok sc (fun vs H Q E h => by (obtain ⟨_, _, rfl, _⟩ := h; rfl)) (fun cdv A outer s H vs Q E hr h => ?_)

  obtain ⟨a, o, rfl, ha, io, h60, k⟩ := h
  refine ⟨_, PSs.nox (pss_one (ps_ret (pe_m1 PySem.F.slot_str_join PySem.F.type_str_join (k_join (K := K) rfl) pe_str (pe_lc (own := [("ring", 1)]) rfl sc.nd (k_list (K := K) rfl (pcall hd_rings_of hr rfl (pa_cons (pv 0) pa_nil))) (blkOk_by (N := ["order", "ring"]) (sc := defScope sorder_text) (by decide +kernel)) (fun _ _ _ _ _ => (pg_name (i := 1) sc.nd rfl (Or.inl rfl))) (fun _ _ _ _ _ => pts_nil) (fun _ _ _ _ _ => (pcall hd_ring_text hr rfl (pa_cons (pv 1) pa_nil))))))), ?_⟩
  obtain ⟨rl, rs⟩ := rings_small io
  have P := Obx.rings_parts io
  have hfl : (Obx.rings o).flatten.length = o.length := P.cover.len
  have hsm : ∀ r ∈ Obx.rings o, ∀ x ∈ r, x ≤ 1000 := fun r hr x hx => by
    have := P.cover.perm.mem_iff.mp (List.mem_flatten.mpr ⟨r, hr, hx⟩)
    rw [List.mem_range] at this
    omega
  walk_at "go"
  rw [e_no]
  refine ⟨a, o, rfl, ha, io, h60, fun p H2 np s2 ⟨as, hp, rt⟩ => ?_⟩
  refine r_itl hp ?_
  refine lcL (xs := refs as) (fun i => .str (S (ringL ((Obx.rings o).getD i [])))) hp (by rw [List.length_map, rt.len]; omega) ?_ fun D H3 nD s3 hD => ?_
  · intro i x H3 R hi s3 kR
    rw [List.getElem?_map] at hi
    obtain ⟨q, hq, rfl⟩ := Option.map_eq_some_iff.mp hi
    have hil : i < (Obx.rings o).length := by rw [← rt.len]; exact (List.getElem?_eq_some_iff.mp hq).1
    have hr := rt.at_ i q (Obx.rings o)[i] hq (List.getElem?_eq_getElem hil)
    have hg : (Obx.rings o).getD i [] = (Obx.rings o)[i] := by rw [List.getD_eq_getElem?_getD, List.getElem?_eq_getElem hil]; rfl
    rw [hg] at kR
    have hm := List.getElem_mem hil
    walk_at "go"
    exact ⟨q, _, rfl, s3 _ _ hr, by have := (rs _ hm).2; omega, hsm _ hm, fun H4 s4 => kR H4 s4⟩
  · have eD : (List.range (refs as).length).map (fun i => V.str (S (ringL ((Obx.rings o).getD i [])))) = txts ((Obx.rings o).map ringL) := by
      have e0 : (refs as).length = (txts ((Obx.rings o).map ringL)).length := by rw [List.length_map, List.length_map, List.length_map, rt.len]
      rw [e0]
      refine range_map_get fun i hi => ?_
      rw [List.length_map, List.length_map] at hi
      rw [List.getElem?_map, List.getElem?_map, List.getD_eq_getElem?_getD, List.getElem?_eq_getElem hi]
      rfl
    rw [eD] at hD
    refine r_join hD 1000 (fun y hy => by
      obtain ⟨r, hr, rfl⟩ := List.mem_map.mp hy
      have h1 := ringL_len r
      have h2 := inner_len (hsm r hr)
      have h3 := (rs r hr).2
      omega) (by rw [List.length_map]; show _ * (1000 + 0) ≤ _; omega) ?_
    rw [joinL_nil]
    exact k H3 (s2.trans s3)
/-! ### number_in -/
theorem ok_number_in {f : Addr} {fd : FuncData} (F : FnP K "number_in" snumber_in f fd) {t_FIGURES : Tok} (hc_FIGURES : mg "FIGURES" = some (.str "0123456789" t_FIGURES)) {t_MOST_FIGURES : Tok} (hc_MOST_FIGURES : mg "MOST_FIGURES" = some (.int 90 t_MOST_FIGURES)) (hb_int : mg "int" = none) (hb_len : mg "len" = none) : FnOk P w K mg base CX0 1 f fd ["word"] sp_number_in := by
  have sc : FnScope ["word", "sign"] ["word"] (defScope snumber_in) := ⟨rfl, rfl, rfl, by decide +kernel, rfl, by decide +kernel, by decide +kernel⟩
  refine F.ok sc (fun vs H Q E h => by (obtain ⟨_, rfl, _⟩ := h; rfl)) (fun cdv A outer s H vs Q E hr h => ?_)

  obtain ⟨n, rfl, hn, k⟩ := h
  refine ⟨_, PSs.nox (pss_cons (ps_if (PW.pt (pw_or (pt_cmpR op_eq (pv 0) pe_str (nomark _)) (pw_or (pt_cmpR op_gt (pe_callB call_lenStr (by rfl) hb_len PySem.boot_len (pa_cons (pv 0) pa_nil)) (pe_glob (v := .int 90) rfl hc_MOST_FIGURES ⟨_, rfl⟩) (nomark _)) (pw_or1 (PW.pt (pw_and (pt_cmpR op_eq (pe_ix ix_str (pv 0) pe_int (fun _ _ => rfl)) pe_str (nomark _)) (pw_and1 (pt_cmpR op_ne (pv 0) pe_str (nomark _))))))))) (pss_one (ps_ret pe_non)) pss_nil)
      (pss_cons (ps_for PassesOwn.never rfl (pi_str (pv 0)) (pg_name (i := 1) sc.nd rfl (Or.inl rfl))
      (pss_one (ps_if (pt_cmpR op_notInS (pv 1) (pe_glob (v := .str "0123456789") rfl hc_FIGURES ⟨_, rfl⟩) rfl) (pss_one (ps_ret pe_non)) pss_nil)))
      (pss_one (ps_ret (pe_callTy call_intStr (by rfl) hb_int (by decide +kernel) (pa_cons (pv 0) pa_nil)))))), ?_⟩
  have hl := numL50 hn
  have hne := TL.numL_ne n
  walk_at "go"
  rw [e_no]
  refine r_eq rfl ?_
  walk_at "go"
  refine ifDF (S_ne hne) ?_
  walk_at "go"
  refine r_lenS (by omega) ?_
  walk_at "go"
  refine ifDF (by omega) ?_
  obtain ⟨c, l, e⟩ := List.exists_cons_of_ne_nil hne
  walk_at "go"
  refine r_ixS (c := c) (by rw [SX.S_len]; exact Nat.le_trans hl (by decide)) (atI_nat (j := 0) (v := c) (xs := TL.numL n) (by rw [e]; rfl)) ?_
  walk_at "go"
  rw [e_0]
  refine r_eq rfl ?_
  walk_at "go"
  have fin : tSeq (tFor (iStr (tVar 0)) (gName 1) (tIfS (tTest (tOp rNotInS (tVar 1) (tC (.str (Str.ofString "0123456789"))))) (tRet (tC .non)) tNext)) (tRet (tCB rIntStr (tCons (tVar 0) tNil))) { nx := fun x H' => Q V.non H', rt := Q } [some (.str (S (TL.numL n))), none] H := by
    walk_at "go"
    refine ⟨_, rfl, ?_⟩
    refine forS (fun i σ H' => ∃ x1, σ = [some (.str (S (TL.numL n))), x1] ∧ H' = H) ⟨_, rfl, rfl⟩ ?_ ?_
    · rintro i c σ H1 hc ⟨x1, rfl, rfl⟩
      walk_at "go"
      refine ⟨c, _, rfl, rfl, ?_⟩
      have hd := TL.numL_digits n c (List.mem_of_getElem? hc)
      have hin : c ∈ (Str.ofString "0123456789").cps.toList := by
        rw [e_fig]
        show c ∈ [48, 49, 50, 51, 52, 53, 54, 55, 56, 57]
        simp
        omega
      walk_at "go"
      refine ifNF hin ?_
      walk_at "go"
      exact ⟨_, rfl, rfl⟩
    · rintro σ H1 ⟨x1, rfl, rfl⟩
      walk_at "go"
      refine ⟨S (TL.numL n), n, rfl, ?_, by rw [SX.S_len]; omega, k H1 (Same.refl _)⟩
      rw [← SX.num_S]
      exact TL.int_num (by omega)
  refine ifD (fun h0 => ?_) (fun h0 => ?_)
  · have hc : c = 48 := by
      have := SX.S_inj (a := [c]) (b := [48]) (V.str.inj h0)
      simpa using this
    have hn0 : n = 0 := numL_head n (by rw [e, hc]; rfl)
    subst hn0
    walk_at "go"
    refine r_ne rfl ?_
    walk_at "go"
    refine ifNF rfl ?_
    exact fin
  · walk_at "go"
    refine iteF ?_
    exact fin
end
section
variable {P : Program} {w : World} {K : PySem.W.Frag} {mg : Str → Option Value} {base : Heap}
open SX (S)
theorem spl_inner {r : List Nat} (h : r ≠ []) : TL.spl [32] 0 [] (inner r) = r.map TL.numL := by
  refine TL.spl_join (s := 32) (S := []) (fun z => h (List.map_eq_nil_iff.mp z)) fun p hp => ?_
  obtain ⟨x, _, rfl⟩ := List.mem_map.mp hp
  exact TL.numL_free (.inl (by decide))
theorem spl_rings {rs : List (List Nat)} (h : rs ≠ []) : TL.spl [41, 40] 0 [] (TL.joinL [41, 40] (rs.map inner)) = rs.map inner := by
  refine TL.spl_join (s := 41) (S := [40]) (fun z => h (List.map_eq_nil_iff.mp z)) fun p hp => ?_
  obtain ⟨x, _, rfl⟩ := List.mem_map.mp hp
  exact inner_no (.inl (by decide)) (by decide) x
theorem cut_first (c d : Nat) (m : List Nat) : cutS (S (c :: (m ++ [d]))) none (some 1) = S [c] := by
  unfold cutS
  rw [SX.S_len, HT.sIx_none, sx1 (by simp)]
  rfl
theorem sIx_neg {n d : Nat} (h : 1 ≤ n) : HT.sIx n d (some (-1)) = n - 1 := by
  show (if (-1 : Int) < 0 then ((-1 : Int) + (n : Int)).toNat else min (-1 : Int).toNat n) = n - 1
  rw [if_pos (by decide)]
  omega
theorem cut_last (c d : Nat) (m : List Nat) : cutS (S (c :: (m ++ [d]))) (some (-1)) none = S [d] := by
  unfold cutS
  rw [SX.S_len, HT.sIx_none, sIx_neg (by simp)]
  have e : (c :: (m ++ [d])).length = m.length + 2 := by simp
  rw [e]
  show (⟨(((c :: (m ++ [d])).drop (m.length + 1)).take _).toArray⟩ : Str) = _
  have e2 : (c :: (m ++ [d])).drop (m.length + 1) = [d] := by simp
  rw [e2, show m.length + 2 - (m.length + 2 - 1) = 1 by omega]
  rfl
theorem cut_mid (c d : Nat) (m : List Nat) : cutS (S (c :: (m ++ [d]))) (some 1) (some (-1)) = S m := by
  unfold cutS
  rw [SX.S_len, sIx_neg (by simp), sx1 (by simp)]
  have e : (c :: (m ++ [d])).length = m.length + 2 := by simp
  rw [e]
  show (⟨(((c :: (m ++ [d])).drop 1).take _).toArray⟩ : Str) = _
  have e2 : ((c :: (m ++ [d])).drop 1).take (m.length + 2 - 1 - 1) = m := by
    rw [List.drop_succ_cons, List.drop_zero, show m.length + 2 - 1 - 1 = m.length by omega, List.take_left']
    rfl
  rw [e2]
theorem non_nis : ∀ l : List Nat, inV .non (nis l) = false
  | [] => rfl
  | a :: l => by
    show (eqV (ni a) .non || inV .non (nis l)) = _
    rw [non_nis l]
    rfl
/-! ### numbers_in -/
theorem ok_numbers_in {f : Addr} {fd : FuncData} (F : FnP K "numbers_in" snumbers_in f fd) (hd_number_in : Dc P w K mg base "number_in" ["word"] 1 sp_number_in) : FnOk P w K mg base CX0 2 f fd ["text"] sp_numbers_in := by
  have sc : FnScope ["text", "numbers", "word"] ["text"] (defScope snumbers_in) := ⟨rfl, rfl, rfl, by decide +kernel, rfl, by decide +kernel, by decide +kernel⟩
  refine F.ok sc (fun vs H Q E h => by (obtain ⟨_, rfl, _⟩ := h; rfl)) (fun cdv A outer s H vs Q E hr h => ?_)

  obtain ⟨r, rfl, hne, hl, hx, k⟩ := h
  refine ⟨_, PSs.nox (pss_cons (ps_setLc (i := 1) (own := [("word", 2)]) rfl sc.nd rfl rfl (sw_true rfl rfl rfl (by decide +kernel)) (k_list (K := K) rfl (pe_m1 PySem.F.slot_str_split PySem.F.type_str_split mt_splitN' (pv 0) pe_str)) (blkOk_by (N := ["text", "numbers", "word"]) (sc := defScope snumbers_in) (by decide +kernel)) (fun _ _ _ _ _ => (pg_name (i := 2) sc.nd rfl (Or.inl rfl))) (fun _ _ _ _ _ => pts_nil) (fun _ _ _ _ _ => (pcall hd_number_in hr rfl (pa_cons (pv 2) pa_nil))))
      (pss_cons (ps_if (pt_cmpR (k_in (K := K) rfl) pe_non (pv 1) (by rfl)) (pss_one (ps_ret pe_non)) pss_nil)
      (pss_one (ps_ret (pv 1))))), ?_⟩
  have hil := inner_len hx
  walk_at "go"
  rw [e_bl]
  refine r_split (by simp) (by decide) (by omega) fun p H1 np s1 hp => ?_
  rw [spl_inner hne] at hp
  refine r_itl hp ?_
  refine lcL (xs := txts (r.map TL.numL)) (fun i => ni (r.getD i 0)) hp (by rw [List.length_map, List.length_map]; omega) ?_ fun D H2 nD s2 hD => ?_
  · intro i x H2 R hi s2 kR
    obtain ⟨hil, rfl⟩ := of_txts hi
    rw [List.getElem_map]
    rw [List.length_map] at hil
    have hg : r.getD i 0 = r[i] := by rw [List.getD_eq_getElem?_getD, List.getElem?_eq_getElem hil]; rfl
    rw [hg] at kR
    walk_at "go"
    exact ⟨r[i], rfl, Nat.lt_of_le_of_lt (hx _ (List.getElem_mem hil)) (by decide), fun H3 s3 => kR H3 s3⟩
  · have eD : (List.range (txts (r.map TL.numL)).length).map (fun i => ni (r.getD i 0)) = nis r := by
      have e0 : (txts (r.map TL.numL)).length = (nis r).length := by rw [nis_len, List.length_map, List.length_map]
      rw [e0]
      refine range_map_get fun i hi => ?_
      rw [nis_len] at hi
      rw [List.getElem?_map, List.getD_eq_getElem?_getD, List.getElem?_eq_getElem hi]
      rfl
    rw [eD] at hD
    walk_at "go"
    refine ⟨D, nis r, rfl, .inl (SqL.of hD), rfl, flat_nis r, ?_⟩
    rw [non_nis]
    walk_at "go"
    refine iteF ?_
    walk_at "go"
    exact k D H2 (s1.free nD) (s1.trans s2) hD
theorem dp_rings {K : PySem.W.Frag} {H : Hp} : ∀ (as : List Addr) (rs : List (List Nat)), as.length = rs.length → (∀ (i : Nat) a r, as[i]? = some a → rs[i]? = some r → H a = some (.lst (nis r))) → DpAll K H (refs as) (rs.map fun r => PyData.list (dI r))
  | [], [], _, _ => .nil
  | a :: as, r :: rs, hl, h => .cons (.lst (SqL.of (h 0 a r rfl rfl)) (dpAll_nis r)) (dp_rings as rs (Nat.succ.inj hl) fun i b q h1 h2 => h (i + 1) b q h1 h2)
theorem lay_rings : ∀ rs : List (List Nat), PyData.canLayAll0 (rs.map fun r => PyData.list (dI r)) = true
  | [] => by simp [PyData.canLayAll0]
  | r :: rs => by
    show PyData.canLayAll0 (.list (dI r) :: rs.map fun r => PyData.list (dI r)) = true
    rw [PyData.canLayAll0, lay_rings rs, PyData.canLay0, lay_dI]
    rfl
theorem depth_rings : ∀ rs : List (List Nat), PyData.depthAll (rs.map fun r => PyData.list (dI r)) ≤ 3
  | [] => by simp [PyData.depthAll]
  | r :: rs => by
    have ih := depth_rings rs
    have h := depth_dI r
    show PyData.depthAll (.list (dI r) :: rs.map fun r => PyData.list (dI r)) ≤ 3
    rw [PyData.depthAll, PyData.depth]
    omega
theorem shaped_rings (rs : List (List Nat)) : SeqAt.shaped (.list (rs.map fun r => PyData.list (dI r))) = true := by
  have h1 := lay_rings rs
  have h2 := depth_rings rs
  unfold SeqAt.shaped
  rw [PyData.canLay0, h1, PyData.depth, Bool.true_and]
  exact decide_eq_true (by omega)
theorem none_rings (rs : List (List Nat)) : ((rs.map fun r => PyData.list (dI r)).any fun z => PyData.eqv z .none) = false := by
  rw [List.any_eq_false]
  intro z hz
  obtain ⟨r, _, rfl⟩ := List.mem_map.mp hz
  simp [PyData.eqv]
/-! ### rings_in -/
theorem ok_rings_in {f : Addr} {fd : FuncData} (F : FnP K "rings_in" srings_in f fd) (hd_numbers_in : Dc P w K mg base "numbers_in" ["text"] 2 sp_numbers_in) : FnOk P w K mg base CX0 3 f fd ["text"] sp_rings_in := by
  have sc : FnScope ["text", "rings", "part"] ["text"] (defScope srings_in) := ⟨rfl, rfl, rfl, by decide +kernel, rfl, by decide +kernel, by decide +kernel⟩
  refine F.ok sc (fun vs H Q E h => by (obtain ⟨_, rfl, _⟩ := h; rfl)) (fun cdv A outer s H vs Q E hr h => ?_)
  have hu65 := hu65_of hr

  obtain ⟨rs, rfl, hne, hl, hrr, k⟩ := h
  refine ⟨_, PSs.nox (pss_cons (ps_if (PW.pt (pw_or (pt_cmpR op_ne (pe_slice sl_str (pv 0) po_none (po_some pe_int)) pe_str (nomark _)) (pw_or1 (pt_cmpR op_ne (pe_slice sl_str (pv 0) (po_some (pe_un un_neg pe_int)) po_none) pe_str (nomark _))))) (pss_one (ps_ret pe_non)) pss_nil)
      (pss_cons (ps_setLc (i := 1) (own := [("part", 2)]) rfl sc.nd rfl rfl (sw_true rfl rfl rfl (by decide +kernel)) (k_list (K := K) rfl (pe_m1 PySem.F.slot_str_split PySem.F.type_str_split mt_splitN' (pe_slice sl_str (pv 0) (po_some pe_int) (po_some (pe_un un_neg pe_int))) pe_str)) (blkOk_by (N := ["text", "rings", "part"]) (sc := defScope srings_in) (by decide +kernel)) (fun _ _ _ _ _ => (pg_name (i := 2) sc.nd rfl (Or.inl rfl))) (fun _ _ _ _ _ => pts_nil) (fun _ _ _ _ _ => (pcall hd_numbers_in hr rfl (pa_cons (pv 2) pa_nil))))
      (pss_cons (ps_if (pt_cmpR (k_inD (K := K) rfl hu65) pe_non (pv 1) (by rfl)) (pss_one (ps_ret pe_non)) pss_nil)
      (pss_one (ps_ret (pv 1)))))), ?_⟩
  have eO := ordL_eq hne
  have hJ : (TL.joinL [41, 40] (rs.map inner)).length ≤ 60 * (300 + 2) := by
    refine Nat.le_trans (joinL_len [41, 40] 300 (rs.map inner) fun p hp => ?_) ?_
    · obtain ⟨r, hr', rfl⟩ := List.mem_map.mp hp
      have h1 := inner_len (hrr r hr').2.2
      have h2 := (hrr r hr').2.1
      omega
    · rw [List.length_map]
      exact Nat.mul_le_mul_right _ hl
  have hO : (S (ordL rs)).length ≤ sizeLine := by
    rw [SX.S_len, eO, List.length_cons, List.length_append]
    exact Nat.le_trans (show _ ≤ 60 * 302 + 2 by show _ + 1 + 1 ≤ _; omega) (by decide)
  walk_at "go"
  refine ⟨_, rfl, hO, ?_⟩
  rw [eO, cut_first, e_lp]
  walk_at "go"
  refine r_ne rfl ?_
  walk_at "go"
  refine ifNF rfl ?_
  rw [← eO]
  walk_at "go"
  refine ⟨_, rfl, hO, ?_⟩
  rw [eO]
  have cl := cut_last 40 41 (TL.joinL [41, 40] (rs.map inner))
  have cm := cut_mid 40 41 (TL.joinL [41, 40] (rs.map inner))
  walk_at "go"
  show rNe (V.str (cutS (S (40 :: (TL.joinL [41, 40] (rs.map inner) ++ [41]))) (some (-1)) none)) _ _ _
  rw [cl, e_rp]
  refine r_ne rfl ?_
  walk_at "go"
  refine ifNF rfl ?_
  rw [← eO]
  walk_at "go"
  refine ⟨_, rfl, hO, ?_⟩
  rw [eO]
  show (∃ a, V.str (cutS (S (40 :: (TL.joinL [41, 40] (rs.map inner) ++ [41]))) (some 1) (some (-1))) = .str a) ∧ _
  rw [cm]
  walk_at "go"
  rw [e_rl]
  refine r_split (by simp) (by decide) (by omega) fun p H1 np s1 hp => ?_
  rw [spl_rings hne] at hp
  refine r_itl hp ?_
  refine lcRef rs hp (by rw [List.length_map, List.length_map]) (by rw [List.length_map, List.length_map]; omega) ?_ fun D H2 as nD s2 hD hlen hat => ?_
  · intro i x r H2 R hi hri s2 kR
    obtain ⟨hil, rfl⟩ := of_txts hi
    rw [List.length_map] at hil
    obtain ⟨_, rfl⟩ := List.getElem?_eq_some_iff.mp hri
    rw [List.getElem_map]
    have hh := hrr _ (List.getElem_mem hil)
    walk_at "go"
    exact ⟨rs[i], rfl, hh.1, hh.2.1, hh.2.2, fun q H3 nq s3 hq => kR q H3 nq s3 hq⟩
  · walk_at "go"
    refine ⟨.none, rs.map fun r => PyData.list (dI r), .non, .lst (SqL.of hD) (dp_rings as rs hlen hat), by rfl, shaped_rings rs, ?_⟩
    rw [none_rings]
    walk_at "go"
    refine iteF ?_
    walk_at "go"
    exact k D H2 (s1.free nD) (s1.trans s2) ⟨as, hD, hlen, fun i a r h1 h2 => .inl (hat i a r h1 h2)⟩
/-! ### read_order -/
theorem ok_read_order {f : Addr} {fd : FuncData} (F : FnP K "read_order" sread_order f fd) (hd_order_by : Dc P w K mg base "order_by" ["rings"] 2 sp_order_by) (hd_order_text : Dc P w K mg base "order_text" ["order"] 3 sp_order_text) (hd_rings_in : Dc P w K mg base "rings_in" ["text"] 3 sp_rings_in) : FnOk P w K mg base CX0 4 f fd ["text"] sp_read_order := by
  have sc : FnScope ["text", "rings", "order"] ["text"] (defScope sread_order) := ⟨rfl, rfl, rfl, by decide +kernel, rfl, by decide +kernel, by decide +kernel⟩
  refine F.ok sc (fun vs H Q E h => by (obtain ⟨_, rfl, _⟩ := h; rfl)) (fun cdv A outer s H vs Q E hr h => ?_)

  obtain ⟨o, rfl, io, h1, h60, k⟩ := h
  refine ⟨_, PSs.nox (pss_cons (ps_set (i := 1) sc.nd rfl (Or.inl rfl) (pcall hd_rings_in hr rfl (pa_cons (pv 0) pa_nil)))
      (pss_cons (ps_if (pt_cmpR op_isN1 (pv 1) pe_non (nomark _)) (pss_one ps_never) pss_nil)
      (pss_cons (ps_try_thru0 (pss_one (ps_set (i := 2) sc.nd rfl (Or.inl rfl) (pcall hd_order_by hr rfl (pa_cons (pv 1) pa_nil)))))
      (pss_cons (ps_if (pt_cmpR op_ne (pcall hd_order_text hr rfl (pa_cons (pv 2) pa_nil)) (pv 0) (nomark _)) (pss_one ps_never) pss_nil)
      (pss_one (ps_ret (pv 2))))))), ?_⟩
  obtain ⟨rl, rs⟩ := rings_small io
  have P := Obx.rings_parts io
  have hne : Obx.rings o ≠ [] := fun z => by
    have e := P.cover.len
    rw [z] at e
    have : 0 = o.length := e
    omega
  walk_at "go"
  refine ⟨Obx.rings o, rfl, hne, by omega, fun r hr => ⟨P.ne r hr, by have := (rs r hr).2; omega, fun x hx => by
    have := P.cover.perm.mem_iff.mp (List.mem_flatten.mpr ⟨r, hr, hx⟩)
    rw [List.mem_range] at this
    omega⟩, fun p H1 np s1 hp => ?_⟩
  walk_at "go"
  refine ⟨rfl, ?_⟩
  walk_at "go"
  refine ifDF (by simp) ?_
  walk_at "go"
  refine ⟨p, o.length, _, rfl, hp, P.cover, h1, h60, fun q H2 nq s2 hq => ?_⟩
  rw [Obx.orderBy_back P] at hq
  walk_at "go"
  refine ⟨q, o, rfl, hq, io, h60, fun H3 s3 => ?_⟩
  walk_at "go"
  refine r_ne rfl ?_
  walk_at "go"
  refine ifNF rfl ?_
  walk_at "go"
  exact k q H3 (s1.free nq) ((s1.trans s2).trans s3) (s3 _ _ hq)
end
section
variable {P : Program} {w : World} {K : PySem.W.Frag} {mg : Str → Option Value} {base : Heap}
open SX (S)
theorem map_getD {ys : List (List Nat)} {n : Nat} (h : n = ys.length) : (List.range n).map (fun i => V.str (S (ys.getD i []))) = txts ys := by
  have e0 : n = (txts ys).length := by rw [List.length_map]; exact h
  rw [e0]
  refine range_map_get fun i hi => ?_
  rw [List.length_map] at hi
  rw [List.getElem?_map, List.getD_eq_getElem?_getD, List.getElem?_eq_getElem hi]
  rfl
/-! ### with_blanks -/
theorem ok_with_blanks {f : Addr} {fd : FuncData} (F : FnP K "with_blanks" swith_blanks f fd) (hb_len : mg "len" = none) (hb_str : mg "str" = none) : FnOk P w K mg base CX0 1 f fd ["some", "nothing"] sp_with_blanks := by
  have sc : FnScope ["some", "nothing", "one"] ["some", "nothing"] (defScope swith_blanks) := ⟨rfl, rfl, rfl, by decide +kernel, rfl, by decide +kernel, by decide +kernel⟩
  refine F.ok sc (fun vs H Q E h => by (obtain ⟨_, _, _, _, rfl, _⟩ := h; rfl)) (fun cdv A outer s H vs Q E hr h => ?_)

  obtain ⟨a, xs, ys, w', rfl, ha, hlen, h60, hb, hx, k⟩ := h
  refine ⟨_, PSs.nox (pss_cons (ps_if (pt_cmpR op_eq (pe_callB (k_len (K := K) rfl) (by rfl) hb_len PySem.boot_len (pa_cons (pv 0) pa_nil)) pe_int (nomark _)) (pss_one (ps_ret (pv 1))) pss_nil)
      (pss_one (ps_ret (pe_m1 PySem.F.slot_str_join PySem.F.type_str_join (k_join (K := K) rfl) pe_str (pe_lc (own := [("one", 2)]) rfl sc.nd (k_seq (K := K) rfl (pv 0)) (blkOk_by (N := ["some", "nothing", "one"]) (sc := defScope swith_blanks) (by decide +kernel)) (fun _ _ _ _ _ => (pg_name (i := 2) sc.nd rfl (Or.inl rfl))) (fun _ _ _ _ _ => pts_nil) (fun _ _ _ _ _ => (pe_callTy call_strA (by rfl) hb_str (by decide +kernel) (pa_cons (pv 2) pa_nil)))))))), ?_⟩
  walk_at "go"
  refine r_lenQ ha ?_
  walk_at "go"
  refine r_eq rfl ?_
  walk_at "go"
  refine ifD (fun h0 => ?_) (fun h0 => ?_)
  · have e : ys = [] := by
      have : (xs.length : Int) = 0 := V.int.inj h0
      exact List.length_eq_zero_iff.mp (by omega)
    rw [if_pos e] at k
    walk_at "go"
    exact k H (Same.refl H)
  · have e : ys ≠ [] := fun z => h0 (by rw [hlen, z]; rfl)
    rw [if_neg e] at k
    have fin : ∀ D H1, Same H H1 → H1 D = some (.lst ((List.range xs.length).map fun i => V.str (S (ys.getD i [])))) → rJoin K (.str (Str.ofString " ")) [.ref D] H1 Q := fun D H1 s1 hD => by
      rw [map_getD hlen] at hD
      rw [e_bl]
      exact r_join hD 500 hb (show ys.length * (500 + 1) ≤ _ by omega) (k H1 s1)
    rcases ha with ha | ha
    · walk_at "go"
      refine ⟨a, rfl, .inl ⟨⟨xs, SqL.of ha⟩, ?_⟩⟩
      refine lcL (xs := xs) (fun i => V.str (S (ys.getD i []))) ha (by omega) ?_ fun D H1 nD s1 hD => ?_
      · intro i x H1 R hi s1 kR
        walk_at "go"
        exact hx i x hi H1 R (kR H1 (Same.refl _))
      · exact fin D H1 s1 hD
    · walk_at "go"
      refine ⟨a, rfl, .inr ⟨⟨xs, SqT.of ha⟩, ?_⟩⟩
      refine lcT (xs := xs) (fun i => V.str (S (ys.getD i []))) ha (by omega) ?_ fun D H1 nD s1 hD => ?_
      · intro i x H1 R hi s1 kR
        walk_at "go"
        exact hx i x hi H1 R (kR H1 (Same.refl _))
      · exact fin D H1 s1 hD
theorem wipe2 (σ : List (Option V)) (j1 j2 : Nat) (x y : V) : wipe (((wipe σ [j1, j2]).set j1 (some x)).set j2 (some y)) [j1, j2] = wipe σ [j1, j2] := by
  show (((((σ.set j2 none).set j1 none).set j1 (some x)).set j2 (some y)).set j2 none).set j1 none = (σ.set j2 none).set j1 none
  apply List.ext_getElem?
  intro k
  simp only [List.getElem?_set, List.length_set]
  by_cases h1 : j1 = k <;> by_cases h2 : j2 = k <;> simp [h1, h2]
/-- pairs taken apart, a value made of each -/
theorem lcP {σ : List (Option V)} {H : Hp} {Q : VK} {te : TE} {p : Addr} {j1 j2 : Nat} {ps : List (Nat × Nat)} {as : List Addr} (f : Nat → V) (h : H p = some (.lst (refs as))) (rt : RT H as (pl ps)) (hz : ps.length ≤ 1000)
    (hs : ∀ (i u v : Nat) H' (R : VK), ps[i]? = some (u, v) → Same H H' → (∀ H'', Same H' H'' → R (f i) H'') → te (((wipe σ [j1, j2]).set j1 (some (ni u))).set j2 (some (ni v))) H' R)
    (q : ∀ D H', H D = none → Same H H' → H' D = some (.lst ((List.range ps.length).map f)) → Q (.ref D) H') : LcJ (Itl K p) (gTup K 2 (gCons (gName j1) (gCons (gName j2) gNil))) tYes te [j1, j2] σ Q H := fun D hD => by
  have hl : as.length = ps.length := by rw [rt.len]; unfold pl; rw [List.length_map]
  refine lc_list (xs := refs as) (fun i H' => LcAt H D ((List.range i).map f) H') (.start hD) (fun i H' _ a => SqL.of (a.same _ _ h)) (fun i x H' hi a => ?_) fun H' a => q D H' a.new a.same (by rw [← hl]; have := a.at_; rw [List.length_map] at this; exact this)
  rw [List.getElem?_map] at hi
  obtain ⟨t, ht, rfl⟩ := Option.map_eq_some_iff.mp hi
  have hil : i < ps.length := by rw [← hl]; exact (List.getElem?_eq_some_iff.mp ht).1
  have hr := a.same _ _ (rt.at_ i t [ps[i].1, ps[i].2] ht (by unfold pl; rw [List.getElem?_map, List.getElem?_eq_getElem hil]; rfl))
  refine ⟨t, nis [ps[i].1, ps[i].2], rfl, SqT.of hr, rfl, _, _, rfl, _, _, rfl, rfl, wipe2 σ j1 j2 _ _, ?_⟩
  show te _ H' _
  refine hs i ps[i].1 ps[i].2 H' _ (List.getElem?_eq_getElem hil) a.same fun H'' s => ⟨_, s _ _ a.at_, smaller (by rw [List.length_map, List.length_range]; omega), ?_⟩
  have := a.more (y := f i) s
  rw [List.range_succ, List.map_append]
  exact this
theorem blank_ints {l : List Nat} (h : ∀ x ∈ l, x < 2 ^ 600) : ∀ (i : Nat) (x : V), (nis l)[i]? = some x → ∀ (H : Hp) (R : VK), R (.str (S ((l.map TL.numL).getD i []))) H → rStrA [x] H R := fun i x hi H R q => by
  obtain ⟨hil, rfl⟩ := of_nis hi
  rw [List.getD_eq_getElem?_getD, List.getElem?_map, List.getElem?_eq_getElem hil] at q
  exact r_strI (h _ (List.getElem_mem hil)) q
theorem blank_txts (l : List (List Nat)) : ∀ (i : Nat) (x : V), (txts l)[i]? = some x → ∀ (H : Hp) (R : VK), R (.str (S (l.getD i []))) H → rStrA [x] H R := fun i x hi H R q => by
  obtain ⟨hil, rfl⟩ := of_txts hi
  rw [List.getD_eq_getElem?_getD, List.getElem?_eq_getElem hil] at q
  exact r_strS q
/-! ### answer_by_order -/
theorem ok_answer_by_order {f : Addr} {fd : FuncData} (F : FnP K "answer_by_order" sanswer_by_order f fd) (hd_exchanges : Dc P w K mg base "exchanges" ["order", "k"] 3 sp_exchanges) (hd_finders : Dc P w K mg base "finders" ["order", "openings"] 2 sp_finders) (hd_need : Dc P w K mg base "need" ["order", "k"] 3 sp_need) (hd_rings_of : Dc P w K mg base "rings_of" ["order"] 2 sp_rings_of) (hd_with_blanks : Dc P w K mg base "with_blanks" ["some", "nothing"] 1 sp_with_blanks) {t_REFUSED : Tok} (hc_REFUSED : mg "REFUSED" = some (.str "refused" t_REFUSED)) (hb_len : mg "len" = none) (hb_str : mg "str" = none) (hb_tuple : mg "tuple" = none) : FnOk P w K mg base CX0 4 f fd ["word", "numbers", "order"] sp_answer_by_order := by
  have sc : FnScope ["word", "numbers", "order", "ring", "one", "other"] ["word", "numbers", "order"] (defScope sanswer_by_order) := ⟨rfl, rfl, rfl, by decide +kernel, rfl, by decide +kernel, by decide +kernel⟩
  refine F.ok sc (fun vs H Q E h => by (obtain ⟨_, _, _, _, rfl, _⟩ := h; rfl)) (fun cdv A outer s H vs Q E hr h => ?_)

  obtain ⟨q, a, b, o, rfl, ha, hb, ho, ok, k⟩ := h
  refine ⟨_, PSs.nox (pss_cons (ps_if (PW.pt (pw_and (pt_cmpR op_eq (pv 0) pe_str (nomark _)) (pw_and1 (pt_cmpR op_eq (pe_callB (k_len (K := K) rfl) (by rfl) hb_len PySem.boot_len (pa_cons (pv 1) pa_nil)) pe_int (nomark _))))) (pss_one (ps_ret (pcall hd_with_blanks hr rfl (pa_cons (pe_lc (own := [("ring", 3)]) rfl sc.nd (k_list (K := K) rfl (pcall hd_rings_of hr rfl (pa_cons (pv 2) pa_nil))) (blkOk_by (N := ["word", "numbers", "order", "ring", "one", "other"]) (sc := defScope sanswer_by_order) (by decide +kernel)) (fun _ _ _ _ _ => (pg_name (i := 3) sc.nd rfl (Or.inl rfl))) (fun _ _ _ _ _ => pts_nil) (fun _ _ _ _ _ => (pe_callB (k_len (K := K) rfl) (by rfl) hb_len PySem.boot_len (pa_cons (pv 3) pa_nil)))) (pa_cons pe_str pa_nil))))) pss_nil)
      (pss_cons (ps_if (pt_cmpR op_eq (pv 0) pe_str (nomark _)) (pss_one (ps_ret (pcall hd_with_blanks hr rfl (pa_cons (pcall hd_finders hr rfl (pa_cons (pv 2) (pa_cons (pe_callTy (k_tupOf (K := K) rfl) (by rfl) hb_tuple (by decide +kernel) (pa_cons (pv 1) pa_nil)) pa_nil))) (pa_cons pe_str pa_nil))))) pss_nil)
      (pss_cons (ps_if (PW.pt (pw_and (pt_cmpR op_eq (pv 0) pe_str (nomark _)) (pw_and1 (pt_cmpR op_eq (pe_callB (k_len (K := K) rfl) (by rfl) hb_len PySem.boot_len (pa_cons (pv 1) pa_nil)) pe_int (nomark _))))) (pss_one (ps_ret (pe_callTy call_strA (by rfl) hb_str (by decide +kernel) (pa_cons (pcall hd_need hr rfl (pa_cons (pv 2) (pa_cons (pe_ix (k_ixL (K := K) rfl) (pv 1) pe_int (fun _ _ => rfl)) pa_nil))) pa_nil)))) pss_nil)
      (pss_cons (ps_if (PW.pt (pw_and (pt_cmpR op_eq (pv 0) pe_str (nomark _)) (pw_and1 (pt_cmpR op_eq (pe_callB (k_len (K := K) rfl) (by rfl) hb_len PySem.boot_len (pa_cons (pv 1) pa_nil)) pe_int (nomark _))))) (pss_one (ps_ret (pcall hd_with_blanks hr rfl (pa_cons (pe_lc (own := [("one", 4), ("other", 5)]) rfl sc.nd (k_list (K := K) rfl (pcall hd_exchanges hr rfl (pa_cons (pv 2) (pa_cons (pe_ix (k_ixL (K := K) rfl) (pv 1) pe_int (fun _ _ => rfl)) pa_nil)))) (blkOk_by (N := ["word", "numbers", "order", "ring", "one", "other"]) (sc := defScope sanswer_by_order) (by decide +kernel)) (fun _ _ _ _ _ => (k_gTup (K := K) (n := 2) rfl rfl (pgs_cons (pg_name (i := 4) sc.nd rfl (Or.inl rfl)) (pgs_cons (pg_name (i := 5) sc.nd rfl (Or.inl rfl)) pgs_nil)))) (fun _ _ _ _ _ => pts_nil) (fun _ _ _ _ _ => (pe_joined (.cons (pe_fmt (pv 4)) (.cons pe_str (.cons (pe_fmt (pv 5)) .nil)))))) (pa_cons pe_str pa_nil))))) pss_nil)
      (pss_one (ps_ret (pe_glob (v := .str "refused") rfl hc_REFUSED ⟨_, rfl⟩))))))), ?_⟩
  cases q with
  | rings o' =>
    cases ho
    obtain ⟨io, h1, h40⟩ := ok
    obtain ⟨rl, rs⟩ := rings_small io
    walk_at "go"
    refine r_eq rfl ?_
    walk_at "go"
    refine ifDT (S_yes "rings") ?_
    walk_at "go"
    refine r_lenL ha ?_
    walk_at "go"
    refine r_eq rfl ?_
    walk_at "go"
    refine ifDT rfl ?_
    walk_at "go"
    refine ⟨b, o, rfl, hb, io, by omega, fun p H2 np s2 ⟨as, hp, rt⟩ => ?_⟩
    walk_at "go"
    refine r_itl hp ?_
    refine lcL (xs := refs as) (fun i => ni ((Obx.rings o).getD i []).length) hp (by rw [List.length_map, rt.len]; omega) ?_ fun D H3 nD s3 hD => ?_
    · intro i x H3 R hi s3 kR
      rw [List.getElem?_map] at hi
      obtain ⟨q, hq, rfl⟩ := Option.map_eq_some_iff.mp hi
      have hil : i < (Obx.rings o).length := by rw [← rt.len]; exact (List.getElem?_eq_some_iff.mp hq).1
      have hr := rt.at_ i q (Obx.rings o)[i] hq (List.getElem?_eq_getElem hil)
      have hg : (Obx.rings o).getD i [] = (Obx.rings o)[i] := by rw [List.getD_eq_getElem?_getD, List.getElem?_eq_getElem hil]; rfl
      walk_at "go"
      refine r_lenT (s3 _ _ hr) ?_
      rw [nis_len, ← hg]
      exact kR H3 (Same.refl _)
    · have eD : (List.range (refs as).length).map (fun i => ni ((Obx.rings o).getD i []).length) = nis ((Obx.rings o).map List.length) := by
        have e0 : (refs as).length = (nis ((Obx.rings o).map List.length)).length := by rw [List.length_map, nis_len, List.length_map, rt.len]
        rw [e0]
        refine range_map_get fun i hi => ?_
        rw [nis_len, List.length_map] at hi
        rw [List.getElem?_map, List.getElem?_map, List.getD_eq_getElem?_getD, List.getElem?_eq_getElem hi]
        rfl
      rw [eD] at hD
      walk_at "go"
      rw [litw "none"]
      have hsm : ∀ x ∈ (Obx.rings o).map List.length, x ≤ 1000 := fun x hx => by
        obtain ⟨r, hr', rfl⟩ := List.mem_map.mp hx
        have := (rs r hr').2
        omega
      refine ⟨D, _, ((Obx.rings o).map List.length).map TL.numL, wd "none", rfl, .inl hD, by simp, by rw [List.length_map, List.length_map]; omega, fun y hy => ?_, blank_ints fun x hx => s600 (hsm x hx), fun H4 s4 => ?_⟩
      · obtain ⟨x, hx, rfl⟩ := List.mem_map.mp hy
        have := numL4 (hsm x hx)
        omega
      · rw [List.map_map]
        exact k H4 ((s2.trans s3).trans s4)
  | find o' ops =>
    cases ho
    obtain ⟨io, h1, h40, hl, hx⟩ := ok
    walk_at "go"
    refine r_eq rfl ?_
    walk_at "go"
    refine ifDF (S_lit (l := wd "find") (s := "rings") (by decide)) ?_
    walk_at "go"
    refine iteF ?_
    walk_at "go"
    refine r_eq rfl ?_
    walk_at "go"
    refine ifDT (S_yes "find") ?_
    walk_at "go"
    refine r_tupL ha fun t H1 nt s1 ht => ?_
    walk_at "go"
    refine ⟨b, t, o, ops, rfl, s1 _ _ hb, ht, io, hl, h1, by omega, hx, fun q H2 nq s2 hq => ?_⟩
    walk_at "go"
    rw [litw "none"]
    have hf := Qn.finders_len o ops
    refine ⟨q, _, (findersM o ops).map TL.numL, wd "none", rfl, .inr hq, by rw [nis_len, List.length_map], by rw [List.length_map]; omega, fun y hy => ?_, blank_ints fun x hx => s600 (by have := Qn.finders_lt hx; omega), fun H4 s4 => ?_⟩
    · obtain ⟨x, hx', rfl⟩ := List.mem_map.mp hy
      have := numL4 (n := x) (by have := Qn.finders_lt hx'; omega)
      omega
    · exact k H4 ((s1.trans s2).trans s4)
  | need o' kk =>
    cases ho
    obtain ⟨io, h1, h40, hk1, hk2⟩ := ok
    walk_at "go"
    refine r_eq rfl ?_
    walk_at "go"
    refine ifDF (S_lit (l := wd "need") (s := "rings") (by decide)) ?_
    walk_at "go"
    refine iteF ?_
    walk_at "go"
    refine r_eq rfl ?_
    walk_at "go"
    refine ifDF (S_lit (l := wd "need") (s := "find") (by decide)) ?_
    walk_at "go"
    refine r_eq rfl ?_
    walk_at "go"
    refine ifDT (S_yes "need") ?_
    walk_at "go"
    refine r_lenL ha ?_
    walk_at "go"
    refine r_eq rfl ?_
    walk_at "go"
    refine ifDT rfl ?_
    walk_at "go"
    refine r_ixL ha (at_n (i := 0) (v := ni kk) rfl) ?_
    walk_at "go"
    refine ⟨b, kk, o, rfl, hb, io, by omega, hk1, hk2, fun H1 s1 => ?_⟩
    walk_at "go"
    exact r_strI (s600 (by have := Qn.need_small (k := kk) io (by omega); omega)) (k H1 s1)
  | help o' kk =>
    cases ho
    obtain ⟨io, h1, h40, hk1, hk2⟩ := ok
    walk_at "go"
    refine r_eq rfl ?_
    walk_at "go"
    refine ifDF (S_lit (l := wd "help") (s := "rings") (by decide)) ?_
    walk_at "go"
    refine iteF ?_
    walk_at "go"
    refine r_eq rfl ?_
    walk_at "go"
    refine ifDF (S_lit (l := wd "help") (s := "find") (by decide)) ?_
    walk_at "go"
    refine r_eq rfl ?_
    walk_at "go"
    refine ifDF (S_lit (l := wd "help") (s := "need") (by decide)) ?_
    walk_at "go"
    refine iteF ?_
    walk_at "go"
    refine r_eq rfl ?_
    walk_at "go"
    refine ifDT (S_yes "help") ?_
    walk_at "go"
    refine r_lenL ha ?_
    walk_at "go"
    refine r_eq rfl ?_
    walk_at "go"
    refine ifDT rfl ?_
    walk_at "go"
    refine r_ixL ha (at_n (i := 0) (v := ni kk) rfl) ?_
    walk_at "go"
    refine ⟨b, kk, o, rfl, hb, io, by omega, hk1, hk2, fun p H2 np s2 ⟨as, hp, rt⟩ => ?_⟩
    walk_at "go"
    refine r_itl hp ?_
    have hc := Qn.exch_le' kk (Obx.rings o)
    have hc2 := Qn.rings_cnt io
    refine lcP (fun i => V.str (S (((Obx.exch kk (Obx.rings o)).map Qn.pairT).getD i []))) hp rt (by omega) ?_ fun D H3 nD s3 hD => ?_
    · intro i u v H3 R hi s3 kR
      have hm := Qn.exch_mem io (by omega) (List.mem_of_getElem? hi)
      have hg : ((Obx.exch kk (Obx.rings o)).map Qn.pairT).getD i [] = Qn.pairT (u, v) := by
        rw [List.getD_eq_getElem?_getD, List.getElem?_map, hi]
        rfl
      rw [hg] at kR
      have hu1 : u ≤ 1000 := hm.1
      have hv1 : v ≤ 1000 := hm.2
      have h4 := numL4 hu1
      have h5 := numL4 hv1
      show tJs _ _ _ _ _
      walk_at "go"
      refine r_fmtI (s600 hu1) ?_
      rw [S_empty]
      refine r_jy (by show 0 + _ ≤ _; omega) ?_
      walk_at "go"
      rw [litw "-"]
      refine r_jy (by rw [List.length_append]; show 0 + _ + 1 ≤ _; omega) ?_
      walk_at "go"
      refine r_fmtI (s600 hv1) ?_
      refine r_jy (by rw [List.length_append, List.length_append]; show 0 + _ + 1 + _ ≤ _; omega) ?_
      walk_at "go"
      have e : [] ++ TL.numL u ++ wd "-" ++ TL.numL v = Qn.pairT (u, v) := by
        rw [List.nil_append, List.append_assoc]
        rfl
      rw [e]
      exact kR H3 (Same.refl _)
    · rw [map_getD (by rw [List.length_map])] at hD
      walk_at "go"
      rw [litw "none"]
      refine ⟨D, _, (Obx.exch kk (Obx.rings o)).map Qn.pairT, wd "none", rfl, .inl hD, by rw [List.length_map], by rw [List.length_map]; omega, fun y hy => ?_, blank_txts _, fun H4 s4 => ?_⟩
      · obtain ⟨x, hx', rfl⟩ := List.mem_map.mp hy
        have := Qn.pairT_len (Qn.exch_mem io (by omega) hx')
        omega
      · exact k H4 ((s2.trans s3).trans s4)
  | good n kk => cases ho
  | gord n kk num => cases ho
  | group n kk => cases ho
  | share ops => cases ho
end
section
variable {P : Program} {w : World} {K : PySem.W.Frag} {mg : Str → Option Value} {base : Heap}
open SX (S)
/-! ### answer_by_numbers -/
theorem ok_answer_by_numbers {f : Addr} {fd : FuncData} (F : FnP K "answer_by_numbers" sanswer_by_numbers f fd) (hd_good_at : Dc P w K mg base "good_at" ["people", "k", "number"] 3 sp_good_at) (hd_many_all_of : Dc P w K mg base "many_all_of" ["people", "k", "group"] 3 sp_many_all_of) (hd_many_good : Dc P w K mg base "many_good" ["people", "k"] 2 sp_many_good) (hd_order_text : Dc P w K mg base "order_text" ["order"] 3 sp_order_text) (hd_share : Dc P w K mg base "share" ["openings"] 4 sp_share) {t_MOST_PEOPLE_sheet : Tok} (hc_MOST_PEOPLE_sheet : mg "MOST_PEOPLE_sheet" = some (.int 60 t_MOST_PEOPLE_sheet)) {t_REFUSED : Tok} (hc_REFUSED : mg "REFUSED" = some (.str "refused" t_REFUSED)) (hb_len : mg "len" = none) (hb_range : mg "range" = none) (hb_str : mg "str" = none) (hb_tuple : mg "tuple" = none) : FnOk P w K mg base CX0 5 f fd ["word", "numbers"] sp_answer_by_numbers := by
  have sc : FnScope ["word", "numbers", "some", "whole"] ["word", "numbers"] (defScope sanswer_by_numbers) := ⟨rfl, rfl, rfl, by decide +kernel, rfl, by decide +kernel, by decide +kernel⟩
  refine F.ok sc (fun vs H Q E h => by (obtain ⟨_, _, rfl, _⟩ := h; rfl)) (fun cdv A outer s H vs Q E hr h => ?_)

  obtain ⟨q, a, rfl, ha, ho, ok, k⟩ := h
  refine ⟨_, PSs.nox (pss_cons (ps_if (pt_cmpR op_eq (pv 0) pe_str (nomark _)) (pss_cons (ps_asg (pcall hd_share hr rfl (pa_cons (pe_callTy (k_tupOf (K := K) rfl) (by rfl) hb_tuple (by decide +kernel) (pa_cons (pv 1) pa_nil)) pa_nil)) (k_gTup (K := K) (n := 2) rfl rfl (pgs_cons (pg_name (i := 2) sc.nd rfl (Or.inl rfl)) (pgs_cons (pg_name (i := 3) sc.nd rfl (Or.inl rfl)) pgs_nil))))
      (pss_one (ps_ret (pe_joined (.cons (pe_fmt (pv 2)) (.cons pe_str (.cons (pe_fmt (pv 3)) .nil))))))) pss_nil)
      (pss_cons (ps_if (PW.pt (pw_and (pt_cmpR op_eq (pv 0) pe_str (nomark _)) (pw_and1 (pt_cmpR op_eq (pe_callB (k_len (K := K) rfl) (by rfl) hb_len PySem.boot_len (pa_cons (pv 1) pa_nil)) pe_int (nomark _))))) (pss_one (ps_ret (pe_callTy call_strA (by rfl) hb_str (by decide +kernel) (pa_cons (pcall hd_many_good hr rfl (pa_cons (pe_ix (k_ixL (K := K) rfl) (pv 1) pe_int (fun _ _ => rfl)) (pa_cons (pe_ix (k_ixL (K := K) rfl) (pv 1) pe_int (fun _ _ => rfl)) pa_nil))) pa_nil)))) pss_nil)
      (pss_cons (ps_if (PW.pt (pw_and (pt_cmpR op_eq (pv 0) pe_str (nomark _)) (pw_and1 (pt_cmpR op_eq (pe_callB (k_len (K := K) rfl) (by rfl) hb_len PySem.boot_len (pa_cons (pv 1) pa_nil)) pe_int (nomark _))))) (pss_one (ps_ret (pcall hd_order_text hr rfl (pa_cons (pcall hd_good_at hr rfl (pa_cons (pe_ix (k_ixL (K := K) rfl) (pv 1) pe_int (fun _ _ => rfl)) (pa_cons (pe_ix (k_ixL (K := K) rfl) (pv 1) pe_int (fun _ _ => rfl)) (pa_cons (pe_ix (k_ixL (K := K) rfl) (pv 1) pe_int (fun _ _ => rfl)) pa_nil)))) pa_nil)))) pss_nil)
      (pss_cons (ps_if (PW.pt (pw_and (pt_cmpR op_eq (pv 0) pe_str (nomark _)) (pw_and (pt_cmpR op_eq (pe_callB (k_len (K := K) rfl) (by rfl) hb_len PySem.boot_len (pa_cons (pv 1) pa_nil)) pe_int (nomark _)) (pw_and1 (pt_chain op_le op_le (pe_ix (k_ixL (K := K) rfl) (pv 1) pe_int (fun _ _ => rfl)) (pe_ix (k_ixL (K := K) rfl) (pv 1) pe_int (fun _ _ => rfl)) (pe_glob (v := .int 60) rfl hc_MOST_PEOPLE_sheet ⟨_, rfl⟩)))))) (pss_one (ps_ret (pe_callTy call_strA (by rfl) hb_str (by decide +kernel) (pa_cons (pcall hd_many_all_of hr rfl (pa_cons (pe_ix (k_ixL (K := K) rfl) (pv 1) pe_int (fun _ _ => rfl)) (pa_cons (pe_ix (k_ixL (K := K) rfl) (pv 1) pe_int (fun _ _ => rfl)) (pa_cons (pe_tupRg rfl (by rfl) hb_tuple (prg_1 (by rfl) hb_range (pe_ix (k_ixL (K := K) rfl) (pv 1) pe_int (fun _ _ => rfl)))) pa_nil)))) pa_nil)))) pss_nil)
      (pss_one (ps_ret (pe_glob (v := .str "refused") rfl hc_REFUSED ⟨_, rfl⟩))))))), ?_⟩
  cases q with
  | rings o' => cases ho
  | find o' ops => cases ho
  | need o' kk => cases ho
  | help o' kk => cases ho
  | share ops =>
    obtain ⟨h1, h40, hx⟩ := ok
    walk_at "go"
    refine r_eq rfl ?_
    walk_at "go"
    refine ifDT (S_yes "share") ?_
    walk_at "go"
    refine r_tupL ha fun t H1 nt s1 ht => ?_
    walk_at "go"
    refine ⟨t, ops, rfl, ht, h1, h40, hx, fun p H2 np s2 hp => ?_⟩
    refine ⟨p, _, rfl, SqT.of hp, rfl, _, _, rfl, _, _, rfl, rfl, ?_⟩
    have b1 : mal ops / gcdF ops < 2 ^ 600 := Nat.lt_of_le_of_lt (Nat.div_le_self _ _) (mal_bd h40)
    have b2 : Obx.fact ops.length / gcdF ops < 2 ^ 600 := f600 (m := ops.length) (Nat.div_le_self _ _) h40
    have l1 := numL200 b1
    have l2 := numL200 b2
    walk_at "go"
    refine r_fmtI b1 ?_
    rw [S_empty]
    refine r_jy (by show 0 + _ ≤ _; omega) ?_
    walk_at "go"
    rw [litw " of "]
    refine r_jy (by rw [List.length_append]; show 0 + _ + 4 ≤ _; omega) ?_
    walk_at "go"
    refine r_fmtI b2 ?_
    refine r_jy (by rw [List.length_append, List.length_append]; show 0 + _ + 4 + _ ≤ _; omega) ?_
    walk_at "go"
    have e : [] ++ TL.numL (mal ops / gcdF ops) ++ wd " of " ++ TL.numL (Obx.fact ops.length / gcdF ops) = (Qn.share ops).ans := by
      rw [List.nil_append, List.append_assoc]
      rfl
    rw [e]
    exact k H2 (s1.trans s2)
  | good n kk =>
    obtain ⟨h1, h40, hk1, hk2⟩ := ok
    walk_at "go"
    refine r_eq rfl ?_
    walk_at "go"
    refine ifDF (S_lit (l := wd "good") (s := "share") (by decide)) ?_
    walk_at "go"
    refine r_eq rfl ?_
    walk_at "go"
    refine ifDT (S_yes "good") ?_
    walk_at "go"
    refine r_lenL ha ?_
    walk_at "go"
    refine r_eq rfl ?_
    walk_at "go"
    refine ifDT rfl ?_
    walk_at "go"
    refine r_ixL ha (at_n (i := 0) (v := ni n) rfl) ?_
    walk_at "go"
    refine r_ixL ha (at_n (i := 1) (v := ni kk) rfl) ?_
    walk_at "go"
    refine ⟨n, kk, rfl, h40, fun H1 s1 => ?_⟩
    walk_at "go"
    exact r_strI (f600 (Obx.gg_fact 1 kk n) h40) (k H1 s1)
  | gord n kk num =>
    obtain ⟨h1, h40, hk1, hk2, hn⟩ := ok
    walk_at "go"
    refine r_eq rfl ?_
    walk_at "go"
    refine ifDF (S_lit (l := wd "goodorder") (s := "share") (by decide)) ?_
    walk_at "go"
    refine r_eq rfl ?_
    walk_at "go"
    refine ifDF (S_lit (l := wd "goodorder") (s := "good") (by decide)) ?_
    walk_at "go"
    refine iteF ?_
    walk_at "go"
    refine r_eq rfl ?_
    walk_at "go"
    refine ifDT (S_yes "goodorder") ?_
    walk_at "go"
    refine r_lenL ha ?_
    walk_at "go"
    refine r_eq rfl ?_
    walk_at "go"
    refine ifDT rfl ?_
    walk_at "go"
    refine r_ixL ha (at_n (i := 0) (v := ni n) rfl) ?_
    walk_at "go"
    refine r_ixL ha (at_n (i := 1) (v := ni kk) rfl) ?_
    walk_at "go"
    refine r_ixL ha (at_n (i := 2) (v := ni num) rfl) ?_
    walk_at "go"
    refine ⟨n, kk, num, rfl, h1, h40, hk1, hn, fun p H1 np s1 hp => ?_⟩
    have g := Qn.gord_rings hk1 hn
    walk_at "go"
    refine ⟨p, _, rfl, hp, g.1, by rw [g.2.2.1]; omega, fun H2 s2 => ?_⟩
    rw [g.2.1]
    exact k H2 (s1.trans s2)
  | group n kk =>
    obtain ⟨h1, h40, hk1, hk2⟩ := ok
    walk_at "go"
    refine r_eq rfl ?_
    walk_at "go"
    refine ifDF (S_lit (l := wd "group") (s := "share") (by decide)) ?_
    walk_at "go"
    refine r_eq rfl ?_
    walk_at "go"
    refine ifDF (S_lit (l := wd "group") (s := "good") (by decide)) ?_
    walk_at "go"
    refine iteF ?_
    walk_at "go"
    refine r_eq rfl ?_
    walk_at "go"
    refine ifDF (S_lit (l := wd "group") (s := "goodorder") (by decide)) ?_
    walk_at "go"
    refine iteF ?_
    walk_at "go"
    refine r_eq rfl ?_
    walk_at "go"
    refine ifDT (S_yes "group") ?_
    walk_at "go"
    refine r_lenL ha ?_
    walk_at "go"
    refine r_eq rfl ?_
    walk_at "go"
    refine ifDT rfl ?_
    walk_at "go"
    refine r_ixL ha (at_n (i := 2) (v := ni n) rfl) ?_
    walk_at "go"
    refine r_ixL ha (at_n (i := 0) (v := ni n) rfl) ?_
    walk_at "go"
    refine ifDT (by omega) ?_
    walk_at "go"
    refine ifDT (by omega) ?_
    walk_at "go"
    refine r_ixL ha (at_n (i := 0) (v := ni n) rfl) ?_
    walk_at "go"
    refine r_ixL ha (at_n (i := 1) (v := ni kk) rfl) ?_
    walk_at "go"
    refine r_ixL ha (at_n (i := 2) (v := ni n) rfl) ?_
    walk_at "go"
    refine r_tupRg0 (n := n) (by omega) fun t H1 nt s1 ht => ?_
    walk_at "go"
    refine ⟨n, kk, t, rfl, h40, ht, fun H2 s2 => ?_⟩
    walk_at "go"
    exact r_strI (f600 (Obx.gg_fact 1 kk n) h40) (k H2 (s1.trans s2))
/-! ### answer_of -/
theorem cut1 (x : V) (xs : List V) : cutV (x :: xs) (some 1) none = xs := by
  unfold cutV
  rw [sx1 (by simp), HT.sIx_none]
  simp
theorem r_slL1 {H : Hp} {Q : VK} {p : Addr} {x : V} {xs : List V} (h : H p = some (.lst (x :: xs))) (q : ∀ p H', H p = none → Same H H' → H' p = some (.lst xs) → Q (.ref p) H') : rSlL K (.ref p) (some 1) none H Q :=
  ⟨p, x :: xs, rfl, SqL.of h, fun l hl => q l _ hl (Same.new hl) (by rw [upd_same, cut1])⟩
theorem ok_answer_of {f : Addr} {fd : FuncData} (F : FnP K "answer_of" sanswer_of f fd) (hd_answer_by_numbers : Dc P w K mg base "answer_by_numbers" ["word", "numbers"] 5 sp_answer_by_numbers) (hd_answer_by_order : Dc P w K mg base "answer_by_order" ["word", "numbers", "order"] 4 sp_answer_by_order) (hd_number_in : Dc P w K mg base "number_in" ["word"] 1 sp_number_in) (hd_read_order : Dc P w K mg base "read_order" ["text"] 4 sp_read_order) {t_REFUSED : Tok} (hc_REFUSED : mg "REFUSED" = some (.str "refused" t_REFUSED)) (hb_len : mg "len" = none) : FnOk P w K mg base CX0 6 f fd ["row"] sp_answer_of := by
  have sc : FnScope ["row", "parts", "words", "numbers", "word"] ["row"] (defScope sanswer_of) := ⟨rfl, rfl, rfl, by decide +kernel, rfl, by decide +kernel, by decide +kernel⟩
  refine F.ok sc (fun vs H Q E h => by (obtain ⟨_, rfl, _⟩ := h; rfl)) (fun cdv A outer s H vs Q E hr h => ?_)

  obtain ⟨q, rfl, ok, k⟩ := h
  refine ⟨_, PSs.nox (pss_cons (ps_set (i := 1) sc.nd rfl (Or.inl rfl) (pe_m1 PySem.F.slot_str_split PySem.F.type_str_split mt_splitN' (pv 0) pe_str))
      (pss_cons (ps_set (i := 2) sc.nd rfl (Or.inl rfl) (pe_m1 PySem.F.slot_str_split PySem.F.type_str_split mt_splitN' (pe_ix (k_ixL (K := K) rfl) (pv 1) pe_int (fun _ _ => rfl)) pe_str))
      (pss_cons (ps_setLc (i := 3) (own := [("word", 4)]) rfl sc.nd rfl rfl (sw_true rfl rfl rfl (by decide +kernel)) (k_list (K := K) rfl (pe_slice (k_slL (K := K) rfl) (pv 2) (po_some pe_int) po_none)) (blkOk_by (N := ["row", "parts", "words", "numbers", "word"]) (sc := defScope sanswer_of) (by decide +kernel)) (fun _ _ _ _ _ => (pg_name (i := 4) sc.nd rfl (Or.inl rfl))) (fun _ _ _ _ _ => pts_nil) (fun _ _ _ _ _ => (pcall hd_number_in hr rfl (pa_cons (pv 4) pa_nil))))
      (pss_cons (ps_if (PW.pt (pw_or (pt_cmpR (k_in (K := K) rfl) pe_non (pv 3) (by rfl)) (pw_or1 (pt_cmpR op_gt (pe_callB (k_len (K := K) rfl) (by rfl) hb_len PySem.boot_len (pa_cons (pv 1) pa_nil)) pe_int (nomark _))))) (pss_one (ps_ret (pe_glob (v := .str "refused") rfl hc_REFUSED ⟨_, rfl⟩))) pss_nil)
      (pss_cons (ps_if (pt_cmpR op_eq (pe_callB (k_len (K := K) rfl) (by rfl) hb_len PySem.boot_len (pa_cons (pv 1) pa_nil)) pe_int (nomark _)) (pss_one (ps_ret (pcall hd_answer_by_order hr rfl (pa_cons (pe_ix (k_ixL (K := K) rfl) (pv 2) pe_int (fun _ _ => rfl)) (pa_cons (pv 3) (pa_cons (pcall hd_read_order hr rfl (pa_cons (pe_ix (k_ixL (K := K) rfl) (pv 1) pe_int (fun _ _ => rfl)) pa_nil)) pa_nil)))))) pss_nil)
      (pss_one (ps_ret (pcall hd_answer_by_numbers hr rfl (pa_cons (pe_ix (k_ixL (K := K) rfl) (pv 2) pe_int (fun _ _ => rfl)) (pa_cons (pv 3) pa_nil)))))))))), ?_⟩
  have hn := Qn.nums_ok ok
  have hlen := Qn.text_len ok
  have hhl := Qn.head_len ok
  have h47 : 47 ∉ q.head := Qn.head_no (by decide) (.inl (by decide)) (Qn.word_ok q).2.1
  obtain ⟨rest, hsp, hrest⟩ : ∃ rest, TL.spl [32, 47, 32] 0 [] q.text = q.head :: rest ∧ ((q.ord = none ∧ rest = []) ∨ ∃ o, q.ord = some o ∧ rest = [ordL (Obx.rings o)]) := by
    unfold Qn.text
    cases e : q.ord with
    | none => exact ⟨[], slash_last h47, .inl ⟨rfl, rfl⟩⟩
    | some o =>
      refine ⟨[ordL (Obx.rings o)], ?_, .inr ⟨o, rfl, rfl⟩⟩
      show TL.spl [32, 47, 32] 0 [] (q.head ++ ([32, 47, 32] ++ ordL (Obx.rings o))) = _
      rw [slash_part h47, slash_last fun z => by
        rcases Qn.ordL_mem z with z | z | z | z <;> omega]
  walk_at "go"
  rw [litw " / "]
  refine r_split (b := [32, 47, 32]) (by simp) (by decide) (by omega) fun pa H1 npa s1 hpa => ?_
  rw [hsp] at hpa
  walk_at "go"
  refine r_ixL hpa (at_n (i := 0) (v := .str (S q.head)) rfl) ?_
  walk_at "go"
  rw [e_bl]
  refine r_split (b := [32]) (by simp) (by decide) (by omega) fun pw H2 npw s2 hpw => ?_
  rw [Qn.head_split] at hpw
  walk_at "go"
  refine r_slL1 (x := .str (S q.word)) (xs := txts (q.nums.map TL.numL)) hpw fun pn H3 npn s3 hpn => ?_
  walk_at "go"
  refine r_itl hpn ?_
  refine lcL (xs := txts (q.nums.map TL.numL)) (fun i => ni (q.nums.getD i 0)) hpn (by rw [List.length_map, List.length_map]; omega) ?_ fun D H4 nD s4 hD => ?_
  · intro i x H4 R hi s4 kR
    obtain ⟨hil, rfl⟩ := of_txts hi
    rw [List.getElem_map]
    rw [List.length_map] at hil
    have hg : q.nums.getD i 0 = q.nums[i] := by rw [List.getD_eq_getElem?_getD, List.getElem?_eq_getElem hil]; rfl
    rw [hg] at kR
    walk_at "go"
    exact ⟨q.nums[i], rfl, hn.2 _ (List.getElem_mem hil), fun H5 s5 => kR H5 s5⟩
  · have eD : (List.range (txts (q.nums.map TL.numL)).length).map (fun i => ni (q.nums.getD i 0)) = nis q.nums := by
      have e0 : (txts (q.nums.map TL.numL)).length = (nis q.nums).length := by rw [nis_len, List.length_map, List.length_map]
      rw [e0]
      refine range_map_get fun i hi => ?_
      rw [nis_len] at hi
      rw [List.getElem?_map, List.getD_eq_getElem?_getD, List.getElem?_eq_getElem hi]
      rfl
    rw [eD] at hD
    have s14 := (s2.trans s3).trans s4
    have hpa4 := s14 _ _ hpa
    have hpw4 := (s3.trans s4) _ _ hpw
    have s04 := s1.trans s14
    walk_at "go"
    refine ⟨D, nis q.nums, rfl, .inl (SqL.of hD), rfl, flat_nis q.nums, ?_⟩
    rw [non_nis]
    walk_at "go"
    refine iteF ?_
    walk_at "go"
    refine r_lenL hpa4 ?_
    walk_at "go"
    rcases hrest with ⟨ho, rfl⟩ | ⟨o, ho, rfl⟩
    · refine ifDF (by simp) ?_
      walk_at "go"
      refine r_lenL hpa4 ?_
      walk_at "go"
      refine r_eq rfl ?_
      walk_at "go"
      refine ifDF (by simp) ?_
      walk_at "go"
      refine r_ixL hpw4 (at_n (i := 0) (v := .str (S q.word)) rfl) ?_
      walk_at "go"
      exact ⟨q, D, rfl, hD, ho, ok, fun H5 s5 => k H5 (s04.trans s5)⟩
    · have oo := Qn.ord_ok ok ho
      refine ifDF (by simp) ?_
      walk_at "go"
      refine r_lenL hpa4 ?_
      walk_at "go"
      refine r_eq rfl ?_
      walk_at "go"
      refine ifDT rfl ?_
      walk_at "go"
      refine r_ixL hpw4 (at_n (i := 0) (v := .str (S q.word)) rfl) ?_
      walk_at "go"
      refine r_ixL hpa4 (at_n (i := 1) (v := .str (S (ordL (Obx.rings o)))) rfl) ?_
      walk_at "go"
      refine ⟨o, rfl, oo.1, oo.2.1, by omega, fun b H5 nb s5 hb => ?_⟩
      walk_at "go"
      exact ⟨q, D, b, o, rfl, s5 _ _ hD, hb, ho, ok, fun H6 s6 => k H6 ((s04.trans s5).trans s6)⟩
/-! ### answered_row, answered -/
theorem ok_answered_row {f : Addr} {fd : FuncData} (F : FnP K "answered_row" sanswered_row f fd) (hd_answer_of : Dc P w K mg base "answer_of" ["row"] 6 sp_answer_of) : FnOk P w K mg base CX0 7 f fd ["row"] sp_answered_row := by
  have sc : FnScope ["row", "found"] ["row"] (defScope sanswered_row) := ⟨rfl, rfl, rfl, by decide +kernel, rfl, by decide +kernel, by decide +kernel⟩
  refine F.ok sc (fun vs H Q E h => by (obtain ⟨_, rfl, _⟩ := h; rfl)) (fun cdv A outer s H vs Q E hr h => ?_)

  obtain ⟨q, rfl, ok, k⟩ := h
  refine ⟨_, PSs.nox (pss_cons (ps_try_thru0 (pss_one (ps_set (i := 1) sc.nd rfl (Or.inl rfl) (pcall hd_answer_of hr rfl (pa_cons (pv 0) pa_nil)))))
      (pss_one (ps_ret (pv 1)))), ?_⟩
  walk_at "go"
  refine ⟨q, rfl, ok, fun H1 s1 => ?_⟩
  walk_at "go"
  exact k H1 s1
theorem e_nl : Str.ofString "\n" = S [10] := lit (by decide)
theorem joinT_len {qs : List Qn} (hl : qs.length ≤ 20) (ok : ∀ q ∈ qs, q.ok) : (TL.joinL [10] (qs.map Qn.text)).length ≤ 100000 := by
  refine Nat.le_trans (joinL_len [10] 3000 (qs.map Qn.text) fun p hp => ?_) ?_
  · obtain ⟨q, hq, rfl⟩ := List.mem_map.mp hp
    exact Qn.text_len (ok q hq)
  · rw [List.length_map]
    show qs.length * 3001 ≤ _
    omega
theorem ok_answered {f : Addr} {fd : FuncData} (F : FnP K "answered" sanswered f fd) (hd_answered_row : Dc P w K mg base "answered_row" ["row"] 7 sp_answered_row) : FnOk P w K mg base CX0 8 f fd ["sheet"] sp_answered := by
  have sc : FnScope ["sheet", "row"] ["sheet"] (defScope sanswered) := ⟨rfl, rfl, rfl, by decide +kernel, rfl, by decide +kernel, by decide +kernel⟩
  refine F.ok sc (fun vs H Q E h => by (obtain ⟨_, rfl, _⟩ := h; rfl)) (fun cdv A outer s H vs Q E hr h => ?_)

  obtain ⟨qs, rfl, hne, hl, ok, k⟩ := h
  refine ⟨_, PSs.nox (pss_one (ps_ret (pe_m1 PySem.F.slot_str_join PySem.F.type_str_join (k_join (K := K) rfl) pe_str (pe_lc (own := [("row", 1)]) rfl sc.nd (k_list (K := K) rfl (pe_m1 PySem.F.slot_str_split PySem.F.type_str_split mt_splitN' (pv 0) pe_str)) (blkOk_by (N := ["sheet", "row"]) (sc := defScope sanswered) (by decide +kernel)) (fun _ _ _ _ _ => (pg_name (i := 1) sc.nd rfl (Or.inl rfl))) (fun _ _ _ _ _ => pts_nil) (fun _ _ _ _ _ => (pcall hd_answered_row hr rfl (pa_cons (pv 1) pa_nil))))))), ?_⟩
  have hJ := joinT_len hl ok
  walk_at "go"
  rw [e_nl]
  walk_at "go"
  refine r_split (b := [10]) (by simp) (by decide) (by omega) fun p H1 np s1 hp => ?_
  rw [TL.spl_join (s := 10) (S := []) (fun z => hne (List.map_eq_nil_iff.mp z)) fun p hp => by
    obtain ⟨q, _, rfl⟩ := List.mem_map.mp hp
    exact Qn.text_no10] at hp
  walk_at "go"
  refine r_itl hp ?_
  refine lcL (xs := txts (qs.map Qn.text)) (fun i => .str (S ((qs.map Qn.ans).getD i []))) hp (by rw [List.length_map, List.length_map]; omega) ?_ fun D H2 nD s2 hD => ?_
  · intro i x H2 R hi s2 kR
    obtain ⟨hil, rfl⟩ := of_txts hi
    rw [List.getElem_map]
    rw [List.length_map] at hil
    have hg : (qs.map Qn.ans).getD i [] = (qs[i]).ans := by rw [List.getD_eq_getElem?_getD, List.getElem?_map, List.getElem?_eq_getElem hil]; rfl
    rw [hg] at kR
    walk_at "go"
    exact ⟨qs[i], rfl, ok _ (List.getElem_mem hil), fun H3 s3 => kR H3 s3⟩
  · rw [map_getD (by simp)] at hD
    refine r_join hD 1000 (fun y hy => by
      obtain ⟨q, hq, rfl⟩ := List.mem_map.mp hy
      exact (Qn.ans_ok (ok q hq)).1) (by rw [List.length_map]; show _ * 1001 ≤ _; omega) ?_
    exact k H2 (s1.trans s2)
end
section
variable {P : Program} {w : World} {K : PySem.W.Frag} {mg : Str → Option Value} {base : Heap}
open SX (S)
/-! ### _law_cell_at, _law_all -/
theorem ok__law_cell_at {f : Addr} {fd : FuncData} (F : FnP K "_law_cell_at" s_law_cell_at f fd) (hb_len : mg "len" = none) : FnOk P w K mg base CX0 1 f fd ["script", "k"] (sp__law_cell_at K) := by
  have sc : FnScope ["script", "k"] ["script", "k"] (defScope s_law_cell_at) := ⟨rfl, rfl, rfl, by decide +kernel, rfl, by decide +kernel, by decide +kernel⟩
  refine F.ok sc (fun vs H Q E h => by (obtain ⟨_, _, _, rfl, _⟩ := h; rfl)) (fun cdv A outer s H vs Q E hr h => ?_)

  obtain ⟨a, ns, kk, rfl, ha, k⟩ := h
  refine ⟨_, PSs.nox (pss_cons (ps_if (pt_cmpR op_lt (pv 1) (pe_callB (k_len (K := K) rfl) (by rfl) hb_len PySem.boot_len (pa_cons (pv 0) pa_nil)) (nomark _)) (pss_one (ps_ret (pe_ix (k_ixL (K := K) rfl) (pv 0) (pv 1) (fun _ _ => rfl)))) pss_nil)
      (pss_one (ps_ret pe_int))), ?_⟩
  walk_at "go"
  refine ⟨a, _, rfl, .inl ha, ?_⟩
  rw [List.length_map]
  walk_at "go"
  refine ifD (fun h0 => ?_) (fun h0 => ?_)
  · have hl : kk < ns.length := by omega
    walk_at "go"
    refine ⟨a, _, (kk : Int), .int ns[kk], rfl, rfl, ha, at_n (by rw [List.getElem?_map, List.getElem?_eq_getElem hl]; rfl), ?_⟩
    exact k _ H (Same.refl H)
  · walk_at "go"
    exact k _ H (Same.refl H)
theorem all_step {B : Nat} {t c : Int} {i : Nat} (ht : t.natAbs < 2 ^ (B + 11 * i)) (hc : c.natAbs < 2 ^ B) : (t * 1000 + c).natAbs < 2 ^ (B + 11 * (i + 1)) := by
  have h1 : (t * 1000 + c).natAbs ≤ t.natAbs * 1000 + c.natAbs := by
    have := Int.natAbs_add_le (t * 1000) c
    rw [Int.natAbs_mul] at this
    exact this
  have h2 : 2 ^ (B + 11 * (i + 1)) = 2 ^ (B + 11 * i) * 2048 := by
    rw [show B + 11 * (i + 1) = B + 11 * i + 11 by omega, Nat.pow_add]
  have h3 : 2 ^ B ≤ 2 ^ (B + 11 * i) := Nat.pow_le_pow_right (by decide) (by omega)
  rw [h2]
  generalize 2 ^ (B + 11 * i) = x at *
  generalize 2 ^ B = y at *
  omega
theorem all_mul {B : Nat} {t : Int} {i : Nat} (hB : B ≤ 1048577) (hi : i ≤ 63) (ht : t.natAbs < 2 ^ (B + 11 * i)) : CMulX t 1000 :=
  mulx_ok (a := B + 11 * i) (b := 10) ht (by decide) (by omega)
theorem ok__law_all {f : Addr} {fd : FuncData} (F : FnP K "_law_all" s_law_all f fd)  : FnOk P w K mg base CX0 1 f fd ["script"] (sp__law_all K) := by
  have sc : FnScope ["script", "total", "cell"] ["script"] (defScope s_law_all) := ⟨rfl, rfl, rfl, by decide +kernel, rfl, by decide +kernel, by decide +kernel⟩
  refine F.ok sc (fun vs H Q E h => by (obtain ⟨_, _, rfl, _⟩ := h; rfl)) (fun cdv A outer s H vs Q E hr h => ?_)

  obtain ⟨a, ns, rfl, ha, hl, hb, k⟩ := h
  refine ⟨_, PSs.nox (pss_cons (ps_set (i := 1) sc.nd rfl (Or.inl rfl) pe_int)
      (pss_cons (ps_for PassesOwn.never rfl (k_list (K := K) rfl (pv 0)) (pg_name (i := 2) sc.nd rfl (Or.inl rfl))
      (pss_one (ps_set (i := 1) sc.nd rfl (Or.inl rfl) (pe_op op_add (pe_op op_mulX (pv 1) pe_int) (pv 2)))))
      (pss_one (ps_ret (pv 1))))), ?_⟩
  have hbb : ∃ B, B ≤ 1048577 ∧ ∀ z ∈ ns, z.natAbs < 2 ^ B := ⟨1048577, Nat.le_refl _, fun z hz => bits_lt (hb z hz)⟩
  obtain ⟨B, hB, hz⟩ := hbb
  walk_at "go"
  refine ⟨a, rfl, ⟨_, ha⟩, ?_⟩
  refine for_list (xs := ns.map V.int) (fun i σ H' => ∃ (t : Int) (x2 : Option V), σ = [some (.ref a), some (.int t), x2] ∧ Same H H' ∧ t.natAbs < 2 ^ (B + 11 * i)) ⟨0, _, rfl, Same.refl H, Nat.two_pow_pos _⟩ (fun i σ H' _ ⟨_, _, _, s, _⟩ => SqLsame s ha) ?_ ?_
  · rintro i x σ H1 hi ⟨t, x2, rfl, s1, ht⟩
    rw [List.getElem?_map] at hi
    obtain ⟨c, hc, rfl⟩ := Option.map_eq_some_iff.mp hi
    have hil := (List.getElem?_eq_some_iff.mp hc).1
    walk_at "go"
    refine ⟨t, 1000, rfl, rfl, all_mul hB (by omega) ht, ?_⟩
    walk_at "go"
    exact ⟨t * 1000 + c, _, rfl, s1, all_step ht (hz c (List.mem_of_getElem? hc))⟩
  · rintro σ H1 ⟨t, x2, rfl, s1, ht⟩
    walk_at "go"
    exact k t H1 s1
/-! ### _law_order -/
theorem ins_perm {l : List Nat} {i j : Nat} (h : l.Perm (List.range i)) : (l.take j ++ [i] ++ l.drop j).Perm (List.range (i + 1)) := by
  rw [List.range_succ]
  have h1 : (l.take j ++ [i] ++ l.drop j).Perm (i :: l) := by
    have h2 := List.perm_middle (a := i) (l₁ := l.take j) (l₂ := l.drop j)
    rw [List.take_append_drop] at h2
    rw [List.append_assoc]
    exact h2
  exact h1.trans ((List.Perm.cons i h).trans (List.perm_append_singleton i (List.range i)).symm)
theorem ok__law_order {f : Addr} {fd : FuncData} (F : FnP K "_law_order" s_law_order f fd) (hb_range : mg "range" = none) (hb_tuple : mg "tuple" = none) : FnOk P w K mg base CX0 1 f fd ["cell", "many"] sp__law_order := by
  have sc : FnScope ["cell", "many", "order", "k"] ["cell", "many"] (defScope s_law_order) := ⟨rfl, rfl, rfl, by decide +kernel, rfl, by decide +kernel, by decide +kernel⟩
  refine F.ok sc (fun vs H Q E h => by (obtain ⟨_, _, rfl, _⟩ := h; rfl)) (fun cdv A outer s H vs Q E hr h => ?_)

  obtain ⟨c, n, rfl, hn, k⟩ := h
  refine ⟨_, PSs.nox (pss_cons (ps_set (i := 2) sc.nd rfl (Or.inl rfl) (pe_lst pa_nil))
      (pss_cons (ps_for PassesOwn.never rfl (pi_range1 rfl hb_range (pa_cons (pv 1) pa_nil)) (pg_name (i := 3) sc.nd rfl (Or.inl rfl))
      (pss_cons (ps_expr (k_bm (K := K) rfl PySem.F.plainAttrs_list PySem.F.slot_list_insert PySem.F.type_list_insert mt_insertN (pv 2) (pa_cons (pe_op op_mod (pv 0) (pe_op op_add (pv 3) pe_int)) (pa_cons (pv 3) pa_nil))))
      (pss_one (ps_set (i := 0) sc.nd rfl (Or.inl rfl) (pe_op op_fdivW (pv 0) (pe_op op_add (pv 3) pe_int))))))
      (pss_one (ps_ret (pe_callTy (k_tupOf (K := K) rfl) (by rfl) hb_tuple (by decide +kernel) (pa_cons (pv 2) pa_nil)))))), ?_⟩
  walk_at "go"
  refine new_lst (by show 0 ≤ sizeLine; decide) fun l H1 nl s1 hl => ?_
  walk_at "go"
  refine r_rng1 (by omega) ?_
  refine forR0 (n := n) (fun i σ H' => ∃ (c' : Int) (xs : List Nat) (x3 : Option V), σ = [some (.int c'), some (ni n), some (.ref l), x3] ∧ Same H H' ∧ H' l = some (.lst (nis xs)) ∧ xs.Perm (List.range i)) ⟨c, [], _, rfl, s1, hl, List.Perm.refl _⟩ ?_ ?_
  · rintro i σ H2 hi ⟨c', xs, x3, rfl, s2, hl2, hp⟩
    have hlen : xs.length = i := by rw [hp.length_eq, List.length_range]
    walk_at "go"
    refine r_bmL hl2 ?_
    walk_at "go"
    rw [ni_succ]
    refine r_modI (b := i + 1) (by omega) fun m hm => ?_
    walk_at "go"
    refine r_insert hl2 (by omega) (by omega) fun H3 b3 hl3 => ?_
    walk_at "go"
    rw [ni_succ]
    refine r_divI (b := i + 1) (by omega) (s600 (by omega)) fun c2 => ?_
    exact ⟨c2, _, _, rfl, but_same s2 nl b3, hl3, ins_perm hp⟩
  · rintro σ H2 ⟨c', xs, x3, rfl, s2, hl2, hp⟩
    have hlen : xs.length = n := by rw [hp.length_eq, List.length_range]
    walk_at "go"
    refine r_tupL hl2 fun t H3 nt s3 ht => ?_
    exact k t H3 xs (s2.free nt) (s2.trans s3) ht hlen (Obx.IsOrd.of_perm (by rw [hlen]; exact hp))
/-! ### _law_ways, _law_words -/
theorem ok__law_ways {f : Addr} {fd : FuncData} (F : FnP K "_law_ways" s_law_ways f fd) (hb_range : mg "range" = none) : FnOk P w K mg base CX0 1 f fd ["many"] sp__law_ways := by
  have sc : FnScope ["many", "ways", "k"] ["many"] (defScope s_law_ways) := ⟨rfl, rfl, rfl, by decide +kernel, rfl, by decide +kernel, by decide +kernel⟩
  refine F.ok sc (fun vs H Q E h => by (obtain ⟨_, rfl, _⟩ := h; rfl)) (fun cdv A outer s H vs Q E hr h => ?_)

  obtain ⟨n, rfl, h1, h40, k⟩ := h
  refine ⟨_, PSs.nox (pss_cons (ps_set (i := 1) sc.nd rfl (Or.inl rfl) pe_int)
      (pss_cons (ps_for PassesOwn.never rfl (pi_range2 rfl hb_range (pa_cons pe_int (pa_cons (pe_op op_add (pv 0) pe_int) pa_nil))) (pg_name (i := 2) sc.nd rfl (Or.inl rfl))
      (pss_one (ps_set (i := 1) sc.nd rfl (Or.inl rfl) (pe_op op_mulX (pv 1) (pv 2)))))
      (pss_one (ps_ret (pv 1))))), ?_⟩
  walk_at "go"
  refine r_rng2 ⟨by omega, by omega, by omega, by omega⟩ ?_
  have en : ((n : Int) + 1 - 2).toNat = n - 1 := by omega
  rw [en]
  refine forRn (lo := 2) (fun i σ H' => ∃ x2, σ = [some (ni n), some (ni (Obx.fact (i + 1))), x2] ∧ Same H H') ⟨_, rfl, Same.refl H⟩ ?_ ?_
  · rintro i σ H1 hi ⟨x2, rfl, s1⟩
    walk_at "go"
    refine r_mul (f600 (m := i + 1) (Nat.le_refl _) (by omega)) (s600 (by omega)) ?_
    have e : Obx.fact (i + 1) * (2 + i) = Obx.fact (i + 1 + 1) := by
      show _ = (i + 1 + 1) * Obx.fact (i + 1)
      rw [Nat.mul_comm, show 2 + i = i + 1 + 1 by omega]
    rw [e]
    exact ⟨_, rfl, s1⟩
  · rintro σ H1 ⟨x2, rfl, s1⟩
    rw [show n - 1 + 1 = n by omega]
    walk_at "go"
    exact k H1 s1
theorem ok__law_words {f : Addr} {fd : FuncData} (F : FnP K "_law_words" s_law_words f fd) (hb_str : mg "str" = none) : FnOk P w K mg base CX0 1 f fd ["numbers"] sp__law_words := by
  have sc : FnScope ["numbers", "number"] ["numbers"] (defScope s_law_words) := ⟨rfl, rfl, rfl, by decide +kernel, rfl, by decide +kernel, by decide +kernel⟩
  refine F.ok sc (fun vs H Q E h => by (obtain ⟨_, _, rfl, _⟩ := h; rfl)) (fun cdv A outer s H vs Q E hr h => ?_)

  obtain ⟨a, l, rfl, ha, h60, hx, k⟩ := h
  refine ⟨_, PSs.nox (pss_one (ps_ret (pe_m1 PySem.F.slot_str_join PySem.F.type_str_join (k_join (K := K) rfl) pe_str (pe_lc (own := [("number", 1)]) rfl sc.nd (k_seq (K := K) rfl (pv 0)) (blkOk_by (N := ["numbers", "number"]) (sc := defScope s_law_words) (by decide +kernel)) (fun _ _ _ _ _ => (pg_name (i := 1) sc.nd rfl (Or.inl rfl))) (fun _ _ _ _ _ => pts_nil) (fun _ _ _ _ _ => (pe_callTy call_strA (by rfl) hb_str (by decide +kernel) (pa_cons (pv 1) pa_nil))))))), ?_⟩
  have fin : ∀ D H1, Same H H1 → H1 D = some (.lst ((List.range (nis l).length).map fun i => V.str (S ((l.map TL.numL).getD i [])))) → rJoin K (.str (Str.ofString " ")) [.ref D] H1 Q := fun D H1 s1 hD => by
    rw [map_getD (by rw [nis_len, List.length_map])] at hD
    rw [e_bl]
    exact r_join hD 200 (fun y hy => by
      obtain ⟨x, hx', rfl⟩ := List.mem_map.mp hy
      exact numL200 (hx x hx')) (by rw [List.length_map]; show l.length * 201 ≤ _; omega) (k H1 s1)
  rcases ha with ha | ha
  · walk_at "go"
    refine ⟨a, rfl, .inl ⟨⟨_, SqL.of ha⟩, ?_⟩⟩
    refine lcL (xs := nis l) (fun i => V.str (S ((l.map TL.numL).getD i []))) ha (by rw [nis_len]; omega) ?_ fun D H1 nD s1 hD => ?_
    · intro i x H1 R hi s1 kR
      walk_at "go"
      exact blank_ints hx i x hi H1 R (kR H1 (Same.refl _))
    · exact fin D H1 s1 hD
  · walk_at "go"
    refine ⟨a, rfl, .inr ⟨⟨_, SqT.of ha⟩, ?_⟩⟩
    refine lcT (xs := nis l) (fun i => V.str (S ((l.map TL.numL).getD i []))) ha (by rw [nis_len]; omega) ?_ fun D H1 nD s1 hD => ?_
    · intro i x H1 R hi s1 kR
      walk_at "go"
      exact blank_ints hx i x hi H1 R (kR H1 (Same.refl _))
    · exact fin D H1 s1 hD
/-! ### _law_helped -/
theorem pairT_no {p : Nat × Nat} {c : Nat} (h : c < 48 ∨ 57 < c) (h2 : c ≠ 45) : c ∉ Qn.pairT p := fun z => by
  rcases List.mem_append.mp z with z | z
  · exact TL.numL_free h z
  · rcases List.mem_cons.mp z with z | z
    · exact h2 z
    · exact TL.numL_free h z
theorem pairT_split (u v : Nat) : TL.spl [45] 0 [] (Qn.pairT (u, v)) = [TL.numL u, TL.numL v] := by
  have h := TL.spl_join (s := 45) (S := []) (parts := [TL.numL u, TL.numL v]) (by simp) fun p hp => by
    simp only [List.mem_cons, List.mem_nil_iff, or_false] at hp
    rcases hp with rfl | rfl
    · exact TL.numL_free (.inl (by decide))
    · exact TL.numL_free (.inl (by decide))
  exact h
theorem e_da : Str.ofString "-" = S [45] := lit (by decide)
theorem doAll_len : ∀ (ps : List (Nat × Nat)) (o : List Nat), (Obx.doAll o ps).length = o.length
  | [], o => rfl
  | p :: ps, o => by
    show (Obx.doAll (Obx.swap o p.1 p.2) ps).length = _
    rw [doAll_len ps, Obx.swap_length]
theorem doAll_snoc (ps : List (Nat × Nat)) (o : List Nat) (p : Nat × Nat) : Obx.doAll o (ps ++ [p]) = Obx.swap (Obx.doAll o ps) p.1 p.2 := by
  show List.foldl _ o (ps ++ [p]) = _
  rw [List.foldl_append]
  rfl
theorem ok__law_helped {f : Addr} {fd : FuncData} (F : FnP K "_law_helped" s_law_helped f fd) (hd_exchanged : Dc P w K mg base "exchanged" ["order", "one", "other"] 1 sp_exchanged) (hd_rings_of : Dc P w K mg base "rings_of" ["order"] 2 sp_rings_of) (hb_int : mg "int" = none) (hb_len : mg "len" = none) (hb_max : mg "max" = none) : FnOk P w K mg base CX0 3 f fd ["order", "k", "told"] sp__law_helped := by
  have sc : FnScope ["order", "k", "told", "pairs", "word", "one", "other", "ring"] ["order", "k", "told"] (defScope s_law_helped) := ⟨rfl, rfl, rfl, by decide +kernel, rfl, by decide +kernel, by decide +kernel⟩
  refine F.ok sc (fun vs H Q E h => by (obtain ⟨_, _, _, rfl, _⟩ := h; rfl)) (fun cdv A outer s H vs Q E hr h => ?_)

  obtain ⟨a, o, kk, rfl, ha, io, h1, h40, hk1, hk2, k⟩ := h
  refine ⟨_, PSs.nox (pss_cons (ps_set (i := 3) sc.nd rfl (Or.inl rfl) (pe_lst pa_nil))
      (pss_cons (ps_if (pt_cmpR op_ne (pv 2) pe_str (nomark _)) (pss_one (ps_for PassesOwn.never rfl (k_list (K := K) rfl (pe_m1 PySem.F.slot_str_split PySem.F.type_str_split mt_splitN' (pv 2) pe_str)) (pg_name (i := 4) sc.nd rfl (Or.inl rfl))
      (pss_cons (ps_asg (pe_m1 PySem.F.slot_str_split PySem.F.type_str_split mt_splitN' (pv 4) pe_str) (k_gUnl (K := K) (n := 2) rfl rfl (pgs_cons (pg_name (i := 5) sc.nd rfl (Or.inl rfl)) (pgs_cons (pg_name (i := 6) sc.nd rfl (Or.inl rfl)) pgs_nil))))
      (pss_one (ps_expr (k_bm (K := K) rfl PySem.F.plainAttrs_list PySem.F.slot_list_append PySem.F.type_list_append mt_append (pv 3) (pa_cons (pe_tup (pa_cons (pe_callTy call_intStr (by rfl) hb_int (by decide +kernel) (pa_cons (pv 5) pa_nil)) (pa_cons (pe_callTy call_intStr (by rfl) hb_int (by decide +kernel) (pa_cons (pv 6) pa_nil)) pa_nil))) pa_nil))))))) pss_nil)
      (pss_cons (ps_for PassesOwn.never rfl (k_list (K := K) rfl (pv 3)) (k_gTup (K := K) (n := 2) rfl rfl (pgs_cons (pg_name (i := 5) sc.nd rfl (Or.inl rfl)) (pgs_cons (pg_name (i := 6) sc.nd rfl (Or.inl rfl)) pgs_nil)))
      (pss_one (ps_set (i := 0) sc.nd rfl (Or.inl rfl) (pcall hd_exchanged hr rfl (pa_cons (pv 0) (pa_cons (pv 5) (pa_cons (pv 6) pa_nil)))))))
      (pss_cons (ps_if (pt_cmpR op_gt (pe_callB (k_max (K := K) rfl rfl) (by rfl) hb_max (by decide +kernel) (pa_cons (pe_lc (own := [("ring", 7)]) rfl sc.nd (k_list (K := K) rfl (pcall hd_rings_of hr rfl (pa_cons (pv 0) pa_nil))) (blkOk_by (N := ["order", "k", "told", "pairs", "word", "one", "other", "ring"]) (sc := defScope s_law_helped) (by decide +kernel)) (fun _ _ _ _ _ => (pg_name (i := 7) sc.nd rfl (Or.inl rfl))) (fun _ _ _ _ _ => pts_nil) (fun _ _ _ _ _ => (pe_callB (k_len (K := K) rfl) (by rfl) hb_len PySem.boot_len (pa_cons (pv 7) pa_nil)))) pa_nil)) (pv 1) (nomark _)) (pss_one (ps_ret (pe_un un_neg pe_int))) pss_nil)
      (pss_one (ps_ret (pe_callB (k_len (K := K) rfl) (by rfl) hb_len PySem.boot_len (pa_cons (pv 3) pa_nil)))))))), ?_⟩
  obtain ⟨j1, j2, j3, j4⟩ := Obx.helped io hk1
  have hc := Qn.exch_le' kk (Obx.rings o)
  have hc2 := Qn.rings_cnt io
  have hel := Obx.exch_len kk (Obx.rings o)
  have e : (Qn.help o kk).ans = Qn.blanks ((Obx.exch kk (Obx.rings o)).map Qn.pairT) := rfl
  rw [e]
  have hsm : ∀ p ∈ Obx.exch kk (Obx.rings o), p.1 ≤ 1000 ∧ p.2 ≤ 1000 := fun p hp => Qn.exch_mem io (by omega) hp
  generalize Obx.exch kk (Obx.rings o) = ps at *
  walk_at "go"
  refine new_lst (by show 0 ≤ sizeLine; decide) fun fl H1 nf s1 hf => ?_
  walk_at "go"
  refine r_ne rfl ?_
  walk_at "go"
  have fin : ∀ (H2 : Hp) (fs : List Addr) x4 x5 x6, Same H H2 → H2 fl = some (.lst (refs fs)) → RT H2 fs (pl ps) →
      tSeq (tFor (iList K (tVar 3)) (gTup K 2 (gCons (gName 5) (gCons (gName 6) gNil))) (tAsg (tCall sp_exchanged [] E0 (tCons (tVar 0) (tCons (tVar 5) (tCons (tVar 6) tNil)))) (gName 0)))
        (tSeq (tIfS (tTest (tOp (rI0 fun i j => .bl (decide (i > j))) (tCB (rMax K) (tCons (tLc (iList K (tCall sp_rings_of [] E0 (tCons (tVar 0) tNil))) (gName 7) tYes (tCB (rLenQ K) (tCons (tVar 7) tNil)) ([(Str.ofString "ring", 7)].map (·.2))) tNil)) (tVar 1))) (tRet (tUn (rU fun i => .int (-i)) (tC (.int 1)))) tNext)
          (tRet (tCB (rLenQ K) (tCons (tVar 3) tNil)))) { nx := fun x H' => Q V.non H', rt := Q } [some (.ref a), some (ni kk), some (.str (S (Qn.blanks (ps.map Qn.pairT)))), some (.ref fl), x4, x5, x6, none] H2 := by
    intro H2 fs x4 x5 x6 s2 hf2 rt
    have hfl : fs.length = ps.length := by rw [rt.len]; unfold pl; rw [List.length_map]
    walk_at "go"
    refine r_itl hf2 ?_
    refine forL (xs := refs fs) (fun i σ H' => ∃ b x5 x6, σ = [some (.ref b), some (ni kk), some (.str (S (Qn.blanks (ps.map Qn.pairT)))), some (.ref fl), x4, x5, x6, none] ∧ Same H2 H' ∧ H' b = some (.tup (nis (Obx.doAll o (ps.take i))))) ⟨a, _, _, rfl, Same.refl _, s2 _ _ ha⟩ (fun i σ H' _ ⟨_, _, _, _, s, _⟩ => s _ _ hf2) ?_ ?_
    · rintro i x σ H3 hi ⟨b, x5, x6, rfl, s3, hb⟩
      rw [List.getElem?_map] at hi
      obtain ⟨t, ht, rfl⟩ := Option.map_eq_some_iff.mp hi
      have hil : i < ps.length := by rw [← hfl]; exact (List.getElem?_eq_some_iff.mp ht).1
      have hr := s3 _ _ (rt.at_ i t [ps[i].1, ps[i].2] ht (by unfold pl; rw [List.getElem?_map, List.getElem?_eq_getElem hil]; rfl))
      have hp := j3 _ (List.getElem_mem hil)
      refine ⟨t, nis [ps[i].1, ps[i].2], rfl, SqT.of hr, rfl, _, _, rfl, _, _, rfl, rfl, ?_⟩
      walk_at "go"
      refine ⟨b, Obx.doAll o (ps.take i), ps[i].1, ps[i].2, rfl, hb, by omega, by rw [doAll_len]; omega, by rw [doAll_len]; omega, by rw [doAll_len]; omega, fun q H4 nq s4 hq => ?_⟩
      refine ⟨q, some (ni ps[i].1), some (ni ps[i].2), rfl, s3.trans s4, ?_⟩
      rw [hq, take_succ hil, doAll_snoc]
    · rintro σ H3 ⟨b, x5, x6, rfl, s3, hb⟩
      rw [List.length_map, hfl, List.take_length] at hb
      obtain ⟨rl, rs⟩ := rings_small j1
      walk_at "go"
      refine ⟨b, _, rfl, hb, j1, by rw [j2]; omega, fun p H4 np s4 ⟨as, hp, rt4⟩ => ?_⟩
      walk_at "go"
      refine r_itl hp ?_
      generalize hoo : Obx.doAll o ps = oo at *
      refine lcL (xs := refs as) (fun i => ni ((Obx.rings oo).getD i []).length) hp (by rw [List.length_map, rt4.len]; omega) ?_ fun D H5 nD s5 hD => ?_
      · intro i x H5 R hi s5 kR
        rw [List.getElem?_map] at hi
        obtain ⟨q, hq, rfl⟩ := Option.map_eq_some_iff.mp hi
        have hil : i < (Obx.rings oo).length := by rw [← rt4.len]; exact (List.getElem?_eq_some_iff.mp hq).1
        have hr := rt4.at_ i q (Obx.rings oo)[i] hq (List.getElem?_eq_getElem hil)
        have hg : (Obx.rings oo).getD i [] = (Obx.rings oo)[i] := by rw [List.getD_eq_getElem?_getD, List.getElem?_eq_getElem hil]; rfl
        walk_at "go"
        refine r_lenT (s5 _ _ hr) ?_
        rw [nis_len, ← hg]
        exact kR H5 (Same.refl _)
      · have eD : (List.range (refs as).length).map (fun i => ni ((Obx.rings oo).getD i []).length) = nis ((Obx.rings oo).map List.length) := by
          have e0 : (refs as).length = (nis ((Obx.rings oo).map List.length)).length := by rw [List.length_map, nis_len, List.length_map, rt4.len]
          rw [e0]
          refine range_map_get fun i hi => ?_
          rw [nis_len, List.length_map] at hi
          rw [List.getElem?_map, List.getElem?_map, List.getD_eq_getElem?_getD, List.getElem?_eq_getElem hi]
          rfl
        rw [eD] at hD
        have hne : 0 < (Obx.rings oo).length := by
          rcases Nat.eq_zero_or_pos (Obx.rings oo).length with z | z
          · have e := (Obx.rings_parts j1).cover.len
            rw [List.length_eq_zero_iff.mp z] at e
            have : 0 = oo.length := e
            omega
          · exact z
        walk_at "go"
        refine r_maxL hD (by rw [List.length_map]; exact hne) fun m hm _ => ?_
        obtain ⟨r, hr', rfl⟩ := List.mem_map.mp hm
        have := j4 r hr'
        walk_at "go"
        refine ifDF (by omega) ?_
        walk_at "go"
        have s25 := (s3.trans s4).trans s5
        refine r_lenL (s25 _ _ hf2) ?_
        rw [List.length_map, hfl, hel]
        exact k H5 (s2.trans s25)
  cases hps : ps with
  | nil =>
    subst hps
    refine ifNF (by rw [litw]; rfl) ?_
    exact fin H1 [] _ _ _ s1 hf .nil
  | cons p0 ps0 =>
    have hne : ps.map Qn.pairT ≠ [] := by rw [hps]; simp
    rw [← hps]
    have eb : Qn.blanks (ps.map Qn.pairT) = TL.joinL [32] (ps.map Qn.pairT) := by unfold Qn.blanks; rw [if_neg hne]
    have hnn : Qn.blanks (ps.map Qn.pairT) ≠ wd "none" := fun z => by
      have : 110 ∈ Qn.blanks (ps.map Qn.pairT) := by rw [z]; decide
      rw [eb] at this
      rcases joinL_mem this with h | ⟨p, hp, h⟩
      · simp at h
      · obtain ⟨x, _, rfl⟩ := List.mem_map.mp hp
        exact pairT_no (.inr (by decide)) (by decide) h
    have hbl : (Qn.blanks (ps.map Qn.pairT)).length ≤ 1000 := Qn.blanks_len (by rw [List.length_map]; omega) fun p hp => by
      obtain ⟨x, hx, rfl⟩ := List.mem_map.mp hp
      have := Qn.pairT_len (hsm x hx)
      omega
    have hspl : TL.spl [32] 0 [] (Qn.blanks (ps.map Qn.pairT)) = ps.map Qn.pairT := by
      rw [eb]
      refine TL.spl_join (s := 32) (S := []) hne fun p hp => ?_
      obtain ⟨x, _, rfl⟩ := List.mem_map.mp hp
      exact pairT_no (.inl (by decide)) (by decide)
    refine ifNT (S_lit hnn) ?_
    walk_at "go"
    rw [e_bl]
    refine r_split (b := [32]) (by simp) (by decide) (by omega) fun p H2 np s2 hp => ?_
    rw [hspl] at hp
    walk_at "go"
    refine r_itl hp ?_
    have hpf : p ≠ fl := fun z => by rw [z, hf] at np; cases np
    refine forL (xs := txts (ps.map Qn.pairT)) (fun i σ H' => ∃ fs x4 x5 x6, σ = [some (.ref a), some (ni kk), some (.str (S (Qn.blanks (ps.map Qn.pairT)))), some (.ref fl), x4, x5, x6, none] ∧ Same H H' ∧ H' p = some (.lst (txts (ps.map Qn.pairT))) ∧ H' fl = some (.lst (refs fs)) ∧ RT H' fs (pl (ps.take i))) ⟨[], _, _, _, rfl, s1.trans s2, hp, s2 _ _ hf, .nil⟩ (fun i σ H' _ ⟨_, _, _, _, _, _, h, _⟩ => h) ?_ ?_
    · rintro i x σ H3 hi ⟨fs, x4, x5, x6, rfl, s3, hp3, hf3, rt3⟩
      obtain ⟨hil, rfl⟩ := of_txts hi
      rw [List.getElem_map]
      rw [List.length_map] at hil
      have hm := hsm _ (List.getElem_mem hil)
      have hfs : fs.length ≤ 1000 := by
        rw [rt3.len]
        unfold pl
        rw [List.length_map, List.length_take]
        omega
      walk_at "go"
      rw [e_da]
      have hpl := Qn.pairT_len hm
      refine r_split (b := [45]) (by simp) (by decide) (by omega) fun w' H4 nw s4 hw => ?_
      rw [show Qn.pairT ps[i] = Qn.pairT (ps[i].1, ps[i].2) from rfl, pairT_split] at hw
      refine ⟨w', txts [TL.numL ps[i].1, TL.numL ps[i].2], rfl, SqL.of hw, rfl, _, _, rfl, _, _, rfl, rfl, ?_⟩
      walk_at "go"
      refine r_bmL (s4 _ _ hf3) ?_
      walk_at "go"
      refine r_intN (s600 hm.1) ?_
      walk_at "go"
      refine r_intN (s600 hm.2) ?_
      walk_at "go"
      refine new_tup (by show 2 ≤ sizeLine; decide) fun t H5 nt s5 ht => ?_
      walk_at "go"
      have hf5 := s5 _ _ (s4 _ _ hf3)
      refine r_app hf5 (smaller (by rw [List.length_map]; omega)) fun H6 b6 hf6 => ?_
      have htf : t ≠ fl := fun z => by rw [z, s4 _ _ hf3] at nt; cases nt
      have s45 := s4.trans s5
      refine ⟨fs ++ [t], some (.str (S (Qn.pairT ps[i]))), some (.str (S (TL.numL ps[i].1))), some (.str (S (TL.numL ps[i].2))), rfl, but_same (s3.trans s45) nf b6, but_at b6 (s45 _ _ hp3) hpf, by rw [hf6, refs_snoc], ?_⟩
      rw [take_succ hil, pl_app]
      refine ((rt3.same s45).but hf5 b6).snoc ?_
      rw [but_at b6 ht htf]
      rfl
    · rintro σ H3 ⟨fs, x4, x5, x6, rfl, s3, hp3, hf3, rt3⟩
      rw [List.length_map, List.length_map, List.take_length] at rt3
      exact fin H3 fs x4 x5 x6 s3 hf3 rt3
end
section
variable {P : Program} {w : World} {K : PySem.W.Frag} {mg : Str → Option Value} {base : Heap}
open SX (S)
abbrev dS (l : List (List Nat)) : List PyData := l.map fun y => PyData.str (S y)
theorem dpAll_txts {K : PySem.W.Frag} {H : Hp} : ∀ l : List (List Nat), DpAll K H (txts l) (dS l)
  | [] => .nil
  | y :: l => .cons (.str _) (dpAll_txts l)
def Lo (l : List Nat) : Prop := ∀ c ∈ l, c < 128
theorem lo_num (n : Nat) : Lo (TL.numL n) := fun c hc => by
  have := TL.numL_digits n c hc
  omega
theorem lo_app {a b : List Nat} (h1 : Lo a) (h2 : Lo b) : Lo (a ++ b) := fun c hc => (List.mem_append.mp hc).elim (h1 c) (h2 c)
theorem lo_join {s : List Nat} {l : List (List Nat)} (h1 : Lo s) (h2 : ∀ p ∈ l, Lo p) : Lo (TL.joinL s l) := fun c hc => by
  rcases joinL_mem hc with h | ⟨p, hp, h⟩
  · exact h1 c h
  · exact h2 p hp c h
theorem lo_pairT (p : Nat × Nat) : Lo (Qn.pairT p) := lo_app (lo_num _) fun c hc => by
  rcases List.mem_cons.mp hc with rfl | h
  · decide
  · exact lo_num _ c h
theorem lo_wd : ∀ w ∈ [wd "none", wd " of ", [32]], Lo w := by unfold Lo; decide
theorem lo_blanks {l : List (List Nat)} (h : ∀ p ∈ l, Lo p) : Lo (Qn.blanks l) := by
  unfold Qn.blanks
  split
  · exact lo_wd _ (by simp)
  · exact lo_join (lo_wd _ (by simp)) h
theorem lo_ordL (rs : List (List Nat)) : Lo (ordL rs) := fun c hc => by
  rcases Qn.ordL_mem hc with h | h | h | h <;> omega
theorem lo_ans (q : Qn) : Lo q.ans := by
  cases q with
  | rings o => exact lo_blanks fun p hp => by obtain ⟨x, _, rfl⟩ := List.mem_map.mp hp; exact lo_num _
  | find o ops => exact lo_blanks fun p hp => by obtain ⟨x, _, rfl⟩ := List.mem_map.mp hp; exact lo_num _
  | need o k => exact lo_num _
  | help o k => exact lo_blanks fun p hp => by obtain ⟨x, _, rfl⟩ := List.mem_map.mp hp; exact lo_pairT _
  | good n k => exact lo_num _
  | gord n k num => exact lo_ordL _
  | group n k => exact lo_num _
  | share ops => exact lo_app (lo_num _) (lo_app (lo_wd _ (by simp)) (lo_num _))
theorem strOk_lo {y : List Nat} (h : Lo y) : PyData.strOk (S y) = true := by
  show y.toArray.all (· < 0x110000) = true
  rw [List.all_toArray, List.all_eq_true]
  intro c hc
  have := h c hc
  exact decide_eq_true (by omega)
theorem lay_dS : ∀ l : List (List Nat), (∀ y ∈ l, Lo y) → PyData.canLayAll0 (dS l) = true
  | [], _ => by simp [PyData.canLayAll0]
  | y :: l, h => by
    show PyData.canLayAll0 (.str (S y) :: dS l) = true
    rw [PyData.canLayAll0, lay_dS l fun z hz => h z (List.mem_cons_of_mem _ hz), PyData.canLay0, strOk_lo (h y List.mem_cons_self)]
    rfl
theorem depth_dS : ∀ l : List (List Nat), PyData.depthAll (dS l) ≤ 1
  | [] => by simp [PyData.depthAll]
  | y :: l => by
    have ih := depth_dS l
    show PyData.depthAll (.str (S y) :: dS l) ≤ 1
    rw [PyData.depthAll]
    have : PyData.depth (.str (S y)) ≤ 1 := by simp [PyData.depth]
    omega
theorem shaped_S (l : List (List Nat)) (h : ∀ y ∈ l, Lo y) : SeqAt.shaped (.list (dS l)) = true := by
  have h1 := lay_dS l h
  have h2 := depth_dS l
  unfold SeqAt.shaped
  rw [PyData.canLay0, h1, PyData.depth, Bool.true_and]
  exact decide_eq_true (by omega)
theorem eqvAll_dS : ∀ l m : List (List Nat), PyData.eqvAll (dS l) (dS m) = decide (l = m)
  | [], [] => by simp [PyData.eqvAll]
  | [], _ :: _ => by simp [PyData.eqvAll]
  | _ :: _, [] => by simp [PyData.eqvAll]
  | a :: l, b :: m => by
    show PyData.eqvAll (.str (S a) :: dS l) (.str (S b) :: dS m) = _
    rw [PyData.eqvAll, eqvAll_dS l m, PyData.eqv, SX.S_beq_eq]
    by_cases h1 : a = b
    · subst h1; simp
    · simp [h1]
theorem r_eqX {H : Hp} {Q : VK} {a b : Addr} {l m : List (List Nat)} (h1 : H a = some (.lst (txts l))) (h2 : H b = some (.lst (txts m))) (o1 : ∀ y ∈ l, Lo y) (o2 : ∀ y ∈ m, Lo y) (q : Q (.bl (decide (l = m))) H) : rEqD K (.ref a) (.ref b) H Q :=
  ⟨.list (dS l), .list (dS m), .lst (SqL.of h1) (dpAll_txts l), .lst (SqL.of h2) (dpAll_txts m), shaped_S l o1, shaped_S m o2, by rw [PyData.eqv, eqvAll_dS]; exact q⟩
theorem r_intB {H : Hp} {Q : VK} {b : Bool} (q : Q (.int (if b then 1 else 0)) H) : rInt1 [.bl b] H Q := .inr ⟨b, rfl, q⟩
theorem S_eq {a b : List Nat} (h : a = b) : V.str (S a) = V.str (S b) := by rw [h]
theorem blanks_ne {l : List (List Nat)} (h : l ≠ []) : Qn.blanks l = TL.joinL [32] l := by unfold Qn.blanks; rw [if_neg h]
theorem rings_ne {o : List Nat} (io : Obx.IsOrd o) (h : 1 ≤ o.length) : Obx.rings o ≠ [] := fun z => by
  have e := (Obx.rings_parts io).cover.len
  rw [z] at e
  have : 0 = o.length := e
  omega
theorem spl_of (a b : Nat) : TL.spl (wd " of ") 0 [] (TL.numL a ++ (wd " of " ++ TL.numL b)) = [TL.numL a, TL.numL b] := by
  have e : wd " of " = 32 :: [111, 102, 32] := by decide
  rw [e]
  have h1 := TL.spl_part1 (s := 32) (S := [111, 102, 32]) (p := TL.numL a) (rest := TL.numL b) (acc := []) (TL.numL_free (.inl (by decide)))
  have h2 := TL.spl_last1 (s := 32) (S := [111, 102, 32]) (p := TL.numL b) (acc := []) (TL.numL_free (.inl (by decide)))
  rw [h2] at h1
  exact h1
/-- the lengths of the rings of an order, as a list made -/
theorem lens_eq (rs : List (List Nat)) {n : Nat} (h : n = rs.length) : (List.range n).map (fun i => ni (rs.getD i []).length) = nis (rs.map List.length) := by
  have e0 : n = (nis (rs.map List.length)).length := by rw [nis_len, List.length_map, h]
  rw [e0]
  refine range_map_get fun i hi => ?_
  rw [nis_len, List.length_map] at hi
  rw [List.getElem?_map, List.getElem?_map, List.getD_eq_getElem?_getD, List.getElem?_eq_getElem hi]
  rfl
/-! ### _law_right -/
theorem ok__law_right {f : Addr} {fd : FuncData} (F : FnP K "_law_right" s_law_right f fd) (hd__law_helped : Dc P w K mg base "_law_helped" ["order", "k", "told"] 3 sp__law_helped) (hd__law_need : Dc P w K mg base "_law_need" ["order", "k"] 3 sp__law_need) (hd__law_ways : Dc P w K mg base "_law_ways" ["many"] 1 sp__law_ways) (hd__law_words : Dc P w K mg base "_law_words" ["numbers"] 1 sp__law_words) (hd_exchanges : Dc P w K mg base "exchanges" ["order", "k"] 3 sp_exchanges) (hd_finders : Dc P w K mg base "finders" ["order", "openings"] 2 sp_finders) (hd_good_number : Dc P w K mg base "good_number" ["order", "k"] 3 sp_good_number) (hd_read_order : Dc P w K mg base "read_order" ["text"] 4 sp_read_order) (hd_rings_of : Dc P w K mg base "rings_of" ["order"] 2 sp_rings_of) (hb_int : mg "int" = none) (hb_len : mg "len" = none) (hb_max : mg "max" = none) (hb_str : mg "str" = none) : FnOk P w K mg base CX0 5 f fd ["order", "openings", "k", "number", "told"] sp__law_right := by
  have sc : FnScope ["order", "openings", "k", "number", "told", "people", "ring", "found", "pairs", "pair", "due", "good", "part", "whole"] ["order", "openings", "k", "number", "told"] (defScope s_law_right) := ⟨rfl, rfl, rfl, by decide +kernel, rfl, by decide +kernel, by decide +kernel⟩
  refine F.ok sc (fun vs H Q E h => by (obtain ⟨_, _, _, _, _, _, _, rfl, _⟩ := h; rfl)) (fun cdv A outer s H vs Q E hr h => ?_)
  have hu64 := hu64_of hr

  obtain ⟨a, b, t, o, ops, kk, num, rfl, ha, hb, ht, R0, k⟩ := h
  refine ⟨_, PSs.nox (pss_cons (ps_set (i := 5) sc.nd rfl (Or.inl rfl) (pe_callB (k_len (K := K) rfl) (by rfl) hb_len PySem.boot_len (pa_cons (pv 0) pa_nil)))
      (pss_cons (ps_if (pt_cmpR op_ne (pe_ix (k_ixL (K := K) rfl) (pv 4) pe_int (fun _ _ => rfl)) (pcall hd__law_words hr rfl (pa_cons (pe_lc (own := [("ring", 6)]) rfl sc.nd (k_list (K := K) rfl (pcall hd_rings_of hr rfl (pa_cons (pv 0) pa_nil))) (blkOk_by (N := ["order", "openings", "k", "number", "told", "people", "ring", "found", "pairs", "pair", "due", "good", "part", "whole"]) (sc := defScope s_law_right) (by decide +kernel)) (fun _ _ _ _ _ => (pg_name (i := 6) sc.nd rfl (Or.inl rfl))) (fun _ _ _ _ _ => pts_nil) (fun _ _ _ _ _ => (pe_callB (k_len (K := K) rfl) (by rfl) hb_len PySem.boot_len (pa_cons (pv 6) pa_nil)))) pa_nil)) (nomark _)) (pss_one (ps_ret pe_bl)) pss_nil)
      (pss_cons (ps_set (i := 7) sc.nd rfl (Or.inl rfl) (pcall hd_finders hr rfl (pa_cons (pv 0) (pa_cons (pv 1) pa_nil))))
      (pss_cons (ps_if (pt_cmpR op_ne (pe_ix (k_ixL (K := K) rfl) (pv 4) pe_int (fun _ _ => rfl)) (pe_ix (k_ixL (K := K) rfl) (pe_lst (pa_cons (pcall hd__law_words hr rfl (pa_cons (pv 7) pa_nil)) (pa_cons pe_str pa_nil))) (pe_callTy call_int1N (by rfl) hb_int (by decide +kernel) (pa_cons (pe_cmpR (k_eqD (K := K) rfl hu64) (pv 7) (pe_tup pa_nil) (nomark _)) pa_nil)) (fun _ _ => rfl)) (nomark _)) (pss_one (ps_ret pe_bl)) pss_nil)
      (pss_cons (ps_setLc (i := 8) (own := [("pair", 9)]) rfl sc.nd rfl rfl (sw_true rfl rfl rfl (by decide +kernel)) (k_list (K := K) rfl (pcall hd_exchanges hr rfl (pa_cons (pv 0) (pa_cons (pv 2) pa_nil)))) (blkOk_by (N := ["order", "openings", "k", "number", "told", "people", "ring", "found", "pairs", "pair", "due", "good", "part", "whole"]) (sc := defScope s_law_right) (by decide +kernel)) (fun _ _ _ _ _ => (pg_name (i := 9) sc.nd rfl (Or.inl rfl))) (fun _ _ _ _ _ => pts_nil) (fun _ _ _ _ _ => (pe_op op_addS (pe_op op_addS (pe_callTy call_strA (by rfl) hb_str (by decide +kernel) (pa_cons (pe_ix (k_ixT (K := K) rfl) (pv 9) pe_int (fun _ _ => rfl)) pa_nil)) pe_str) (pe_callTy call_strA (by rfl) hb_str (by decide +kernel) (pa_cons (pe_ix (k_ixT (K := K) rfl) (pv 9) pe_int (fun _ _ => rfl)) pa_nil)))))
      (pss_cons (ps_if (pt_cmpR op_ne (pe_ix (k_ixL (K := K) rfl) (pv 4) pe_int (fun _ _ => rfl)) (pe_ix (k_ixL (K := K) rfl) (pe_lst (pa_cons (pe_m1 PySem.F.slot_str_join PySem.F.type_str_join (k_join (K := K) rfl) pe_str (pv 8)) (pa_cons pe_str pa_nil))) (pe_callTy call_int1N (by rfl) hb_int (by decide +kernel) (pa_cons (pe_cmpR (k_eqD (K := K) rfl hu64) (pv 8) (pe_lst pa_nil) (nomark _)) pa_nil)) (fun _ _ => rfl)) (nomark _)) (pss_one (ps_ret pe_bl)) pss_nil)
      (pss_cons (ps_set (i := 10) sc.nd rfl (Or.inl rfl) (pcall hd__law_need hr rfl (pa_cons (pv 0) (pa_cons (pv 2) pa_nil))))
      (pss_cons (ps_if (PW.pt (pw_or (pt_cmpR op_ne (pe_ix (k_ixL (K := K) rfl) (pv 4) pe_int (fun _ _ => rfl)) (pe_callTy call_strA (by rfl) hb_str (by decide +kernel) (pa_cons (pv 10) pa_nil)) (nomark _)) (pw_or1 (pt_cmpR op_ne (pcall hd__law_helped hr rfl (pa_cons (pv 0) (pa_cons (pv 2) (pa_cons (pe_ix (k_ixL (K := K) rfl) (pv 4) pe_int (fun _ _ => rfl)) pa_nil)))) (pv 10) (nomark _))))) (pss_one (ps_ret pe_bl)) pss_nil)
      (pss_cons (ps_set (i := 11) sc.nd rfl (Or.inl rfl) (pcall hd_read_order hr rfl (pa_cons (pe_ix (k_ixL (K := K) rfl) (pv 4) pe_int (fun _ _ => rfl)) pa_nil)))
      (pss_cons (ps_if (PW.pt (pw_or (pt_cmpR op_ne (pcall hd_good_number hr rfl (pa_cons (pv 11) (pa_cons (pv 2) pa_nil))) (pv 3) (nomark _)) (pw_or1 (pt_cmpR op_gt (pe_callB (k_max (K := K) rfl rfl) (by rfl) hb_max (by decide +kernel) (pa_cons (pe_lc (own := [("ring", 6)]) rfl sc.nd (k_list (K := K) rfl (pcall hd_rings_of hr rfl (pa_cons (pv 11) pa_nil))) (blkOk_by (N := ["order", "openings", "k", "number", "told", "people", "ring", "found", "pairs", "pair", "due", "good", "part", "whole"]) (sc := defScope s_law_right) (by decide +kernel)) (fun _ _ _ _ _ => (pg_name (i := 6) sc.nd rfl (Or.inl rfl))) (fun _ _ _ _ _ => pts_nil) (fun _ _ _ _ _ => (pe_callB (k_len (K := K) rfl) (by rfl) hb_len PySem.boot_len (pa_cons (pv 6) pa_nil)))) pa_nil)) (pv 2) (nomark _))))) (pss_one (ps_ret pe_bl)) pss_nil)
      (pss_cons (ps_if (PW.pt (pw_or (pt_cmpR op_ne (pe_callB (k_len (K := K) rfl) (by rfl) hb_len PySem.boot_len (pa_cons (pv 11) pa_nil)) (pv 5) (nomark _)) (pw_or (pt_cmpR op_ne (pe_ix (k_ixL (K := K) rfl) (pv 4) pe_int (fun _ _ => rfl)) (pe_ix (k_ixL (K := K) rfl) (pv 4) pe_int (fun _ _ => rfl)) (nomark _)) (pw_or1 (pt_cmpR op_ge (pv 3) (pe_callTy call_intStr (by rfl) hb_int (by decide +kernel) (pa_cons (pe_ix (k_ixL (K := K) rfl) (pv 4) pe_int (fun _ _ => rfl)) pa_nil)) (nomark _)))))) (pss_one (ps_ret pe_bl)) pss_nil)
      (pss_cons (ps_asg (pe_m1 PySem.F.slot_str_split PySem.F.type_str_split mt_splitN' (pe_ix (k_ixL (K := K) rfl) (pv 4) pe_int (fun _ _ => rfl)) pe_str) (k_gUnl (K := K) (n := 2) rfl rfl (pgs_cons (pg_name (i := 12) sc.nd rfl (Or.inl rfl)) (pgs_cons (pg_name (i := 13) sc.nd rfl (Or.inl rfl)) pgs_nil))))
      (pss_cons (ps_if (pt_cmpR op_ne (pe_op op_mulX (pe_callTy call_intStr (by rfl) hb_int (by decide +kernel) (pa_cons (pv 12) pa_nil)) (pcall hd__law_ways hr rfl (pa_cons (pv 5) pa_nil))) (pe_op op_mulX (pe_callTy call_intStr (by rfl) hb_int (by decide +kernel) (pa_cons (pe_ix (k_ixL (K := K) rfl) (pv 4) pe_int (fun _ _ => rfl)) pa_nil)) (pe_callTy call_intStr (by rfl) hb_int (by decide +kernel) (pa_cons (pv 13) pa_nil))) (nomark _)) (pss_one (ps_ret pe_bl)) pss_nil)
      (pss_cons (ps_asg (pe_m1 PySem.F.slot_str_split PySem.F.type_str_split mt_splitN' (pe_ix (k_ixL (K := K) rfl) (pv 4) pe_int (fun _ _ => rfl)) pe_str) (k_gUnl (K := K) (n := 2) rfl rfl (pgs_cons (pg_name (i := 12) sc.nd rfl (Or.inl rfl)) (pgs_cons (pg_name (i := 13) sc.nd rfl (Or.inl rfl)) pgs_nil))))
      (pss_one (ps_ret (pe_and (pe_m0 PySem.F.slot_str_isdigit PySem.F.type_str_isdigit mt_isdigitN (pv 12)) (pe_one (pe_cmpR op_eq (pe_op op_mod (pcall hd__law_ways hr rfl (pa_cons (pv 5) pa_nil)) (pe_callTy call_intStr (by rfl) hb_int (by decide +kernel) (pa_cons (pv 13) pa_nil))) pe_int (nomark _)))))))))))))))))))), ?_⟩
  have oks := R0.ok
  obtain ⟨io, h1, h40, hlo, hx, hk1, hk2, hn⟩ := R0
  obtain ⟨rl, rs⟩ := rings_small io
  have hrn := rings_ne io h1
  have hxl := Qn.exch_le' kk (Obx.rings o)
  have hxc := Qn.rings_cnt io
  have hnd := Qn.need_small (k := kk) io (by omega)
  walk_at "go"
  refine r_lenT ha ?_
  rw [nis_len]
  walk_at "go"
  refine r_ixL ht (at_n (i := 0) (v := .str (S (Qn.rings o).ans)) rfl) ?_
  walk_at "go"
  refine ⟨a, o, rfl, ha, io, by omega, fun p H1 np s1 ⟨as, hp, rt⟩ => ?_⟩
  walk_at "go"
  refine r_itl hp ?_
  refine lcL (xs := refs as) (fun i => ni ((Obx.rings o).getD i []).length) hp (by rw [List.length_map, rt.len]; omega) ?_ fun D H2 nD s2 hD => ?_
  · intro i x H2 R hi s2 kR
    rw [List.getElem?_map] at hi
    obtain ⟨q, hq, rfl⟩ := Option.map_eq_some_iff.mp hi
    have hil : i < (Obx.rings o).length := by rw [← rt.len]; exact (List.getElem?_eq_some_iff.mp hq).1
    have hr := rt.at_ i q (Obx.rings o)[i] hq (List.getElem?_eq_getElem hil)
    have hg : (Obx.rings o).getD i [] = (Obx.rings o)[i] := by rw [List.getD_eq_getElem?_getD, List.getElem?_eq_getElem hil]; rfl
    walk_at "go"
    refine r_lenT (s2 _ _ hr) ?_
    rw [nis_len, ← hg]
    exact kR H2 (Same.refl _)
  rw [lens_eq _ (by rw [List.length_map, rt.len])] at hD
  walk_at "go"
  refine ⟨D, _, rfl, .inl hD, by rw [List.length_map]; omega, fun x hx' => ?_, fun H3 s3 => ?_⟩
  · obtain ⟨r, hr', rfl⟩ := List.mem_map.mp hx'
    have := (rs r hr').2
    exact s600 (by omega)
  walk_at "go"
  refine r_ne rfl ?_
  walk_at "go"
  refine ifNF (S_eq (by
    rw [List.map_map]
    exact blanks_ne (fun z => hrn (List.map_eq_nil_iff.mp z)))) ?_
  have s03 := (s1.trans s2).trans s3
  walk_at "go"
  refine ⟨a, b, o, ops, rfl, s03 _ _ ha, s03 _ _ hb, io, hlo, h1, by omega, hx, fun f4 H4 nf4 s4 hf4 => ?_⟩
  have s04 := s03.trans s4
  have hfl := Qn.finders_len o ops
  walk_at "go"
  refine r_ixL (s04 _ _ ht) (at_n (i := 1) (v := .str (S (Qn.find o ops).ans)) rfl) ?_
  walk_at "go"
  refine ⟨f4, findersM o ops, rfl, .inr hf4, by omega, fun x hx' => s600 (by have := Qn.finders_lt hx'; omega), fun H5 s5 => ?_⟩
  walk_at "go"
  rw [litw "none"]
  refine new_lst (by show 2 ≤ sizeLine; decide) fun u6 H6 nu6 s6 hu6 => ?_
  walk_at "go"
  refine new_tup (by show 0 ≤ sizeLine; decide) fun e7 H7 ne7 s7 he7 => ?_
  refine r_eqTT (l := findersM o ops) (m := []) (s7 _ _ (s6 _ _ (s5 _ _ hf4))) he7 ?_
  walk_at "go"
  refine r_intB ?_
  have s07 := (s04.trans s5).trans (s6.trans s7)
  have hp2 : rIxL K (.ref u6) (.int (if decide (findersM o ops = []) = true then 1 else 0)) H7 fun x H1 => x = .str (S (Qn.find o ops).ans) ∧ H1 = H7 := by
    by_cases he : findersM o ops = []
    · rw [decide_eq_true he]
      refine r_ixL (s7 _ _ hu6) (at_n (i := 1) (v := .str (S (wd "none"))) rfl) ⟨?_, rfl⟩
      show _ = V.str (S (Qn.blanks ((findersM o ops).map TL.numL)))
      rw [he]
      rfl
    · rw [decide_eq_false he]
      refine r_ixL (s7 _ _ hu6) (at_n (i := 0) (v := .str (S (TL.joinL [32] ((findersM o ops).map TL.numL)))) rfl) ⟨?_, rfl⟩
      show _ = V.str (S (Qn.blanks ((findersM o ops).map TL.numL)))
      rw [blanks_ne (fun z => he (List.map_eq_nil_iff.mp z))]
  obtain ⟨pp, xx, kx, vv, q1, q2, q3, q4, rfl, _⟩ := hp2
  refine ⟨pp, xx, kx, _, q1, q2, q3, q4, ?_⟩
  walk_at "go"
  refine r_ne rfl ?_
  walk_at "go"
  refine ifNF rfl ?_
  walk_at "go"
  refine ⟨a, kk, o, rfl, s07 _ _ ha, io, by omega, hk1, hk2, fun p8 H8 np8 s8 ⟨as8, hp8, rt8⟩ => ?_⟩
  walk_at "go"
  refine r_itl hp8 ?_
  have hal : as8.length = (Obx.exch kk (Obx.rings o)).length := by rw [rt8.len]; unfold pl; rw [List.length_map]
  refine lcL (xs := refs as8) (fun i => V.str (S (((Obx.exch kk (Obx.rings o)).map Qn.pairT).getD i []))) hp8 (by rw [List.length_map]; omega) ?_ fun D9 H9 nD9 s9 hD9 => ?_
  · intro i x H9 R hi s9 kR
    rw [List.getElem?_map] at hi
    obtain ⟨q, hq, rfl⟩ := Option.map_eq_some_iff.mp hi
    have hil : i < (Obx.exch kk (Obx.rings o)).length := by rw [← hal]; exact (List.getElem?_eq_some_iff.mp hq).1
    have hm := Qn.exch_mem io (by omega) (List.getElem_mem hil)
    have hr := rt8.at_ i q [(Obx.exch kk (Obx.rings o))[i].1, (Obx.exch kk (Obx.rings o))[i].2] hq (by unfold pl; rw [List.getElem?_map, List.getElem?_eq_getElem hil]; rfl)
    have hg : ((Obx.exch kk (Obx.rings o)).map Qn.pairT).getD i [] = Qn.pairT (Obx.exch kk (Obx.rings o))[i] := by
      rw [List.getD_eq_getElem?_getD, List.getElem?_map, List.getElem?_eq_getElem hil]
      rfl
    rw [hg] at kR
    generalize (Obx.exch kk (Obx.rings o))[i] = uv at *
    have l1 := numL4 hm.1
    have l2 := numL4 hm.2
    walk_at "go"
    refine r_ixT (s9 _ _ hr) (at_n (i := 0) (v := ni uv.1) rfl) ?_
    walk_at "go"
    refine r_strI (s600 hm.1) ?_
    walk_at "go"
    rw [litw "-"]
    refine r_addS (by show _ + 1 ≤ _; omega) ?_
    walk_at "go"
    refine r_ixT (s9 _ _ hr) (at_n (i := 1) (v := ni uv.2) rfl) ?_
    walk_at "go"
    refine r_strI (s600 hm.2) ?_
    refine r_addS (by rw [List.length_append]; show _ + 1 + _ ≤ _; omega) ?_
    have e : TL.numL uv.1 ++ wd "-" ++ TL.numL uv.2 = Qn.pairT uv := by
      rw [List.append_assoc]
      rfl
    rw [e]
    exact kR H9 (Same.refl _)
  rw [map_getD (by rw [List.length_map, List.length_map, hal])] at hD9
  have s09 := s07.trans (s8.trans s9)
  walk_at "go"
  refine r_ixL (s09 _ _ ht) (at_n (i := 3) (v := .str (S (Qn.help o kk).ans)) rfl) ?_
  walk_at "go"
  rw [e_bl]
  walk_at "go"
  refine r_join hD9 9 (fun y hy => by
    obtain ⟨x, hx', rfl⟩ := List.mem_map.mp hy
    exact Qn.pairT_len (Qn.exch_mem io (by omega) hx')) (by rw [List.length_map]; show _ * 10 ≤ _; omega) ?_
  walk_at "go"
  refine new_lst (by show 2 ≤ sizeLine; decide) fun u10 H10 nu10 s10 hu10 => ?_
  walk_at "go"
  refine new_lst (by show 0 ≤ sizeLine; decide) fun e11 H11 ne11 s11 he11 => ?_
  refine r_eqX (l := (Obx.exch kk (Obx.rings o)).map Qn.pairT) (m := []) (s11 _ _ (s10 _ _ hD9)) he11 (fun y hy => by obtain ⟨x, _, rfl⟩ := List.mem_map.mp hy; exact lo_pairT x) (fun y hy => by simp at hy) ?_
  walk_at "go"
  refine r_intB ?_
  have s011 := s09.trans (s10.trans s11)
  have hp3 : rIxL K (.ref u10) (.int (if decide ((Obx.exch kk (Obx.rings o)).map Qn.pairT = []) = true then 1 else 0)) H11 fun x H1 => x = .str (S (Qn.help o kk).ans) ∧ H1 = H11 := by
    by_cases he : (Obx.exch kk (Obx.rings o)).map Qn.pairT = []
    · rw [decide_eq_true he]
      refine r_ixL (s11 _ _ hu10) (at_n (i := 1) (v := .str (S (wd "none"))) rfl) ⟨?_, rfl⟩
      show _ = V.str (S (Qn.blanks ((Obx.exch kk (Obx.rings o)).map Qn.pairT)))
      rw [he]
      rfl
    · rw [decide_eq_false he]
      refine r_ixL (s11 _ _ hu10) (at_n (i := 0) (v := .str (S (TL.joinL [32] ((Obx.exch kk (Obx.rings o)).map Qn.pairT)))) rfl) ⟨?_, rfl⟩
      show _ = V.str (S (Qn.blanks ((Obx.exch kk (Obx.rings o)).map Qn.pairT)))
      rw [blanks_ne he]
  obtain ⟨pp, xx, kx, vv, q1, q2, q3, q4, rfl, _⟩ := hp3
  refine ⟨pp, xx, kx, _, q1, q2, q3, q4, ?_⟩
  walk_at "go"
  refine r_ne rfl ?_
  walk_at "go"
  refine ifNF rfl ?_
  walk_at "go"
  refine ⟨a, kk, o, rfl, s011 _ _ ha, io, by omega, hk1, hk2, fun H12 s12 => ?_⟩
  have s012 := s011.trans s12
  walk_at "go"
  refine r_ixL (s012 _ _ ht) (at_n (i := 2) (v := .str (S (Qn.need o kk).ans)) rfl) ?_
  walk_at "go"
  refine r_strI (s600 (by omega)) ?_
  refine r_ne rfl ?_
  walk_at "go"
  refine ifNF rfl ?_
  walk_at "go"
  refine r_ixL (s012 _ _ ht) (at_n (i := 3) (v := .str (S (Qn.help o kk).ans)) rfl) ?_
  walk_at "go"
  refine ⟨a, o, kk, rfl, s012 _ _ ha, io, h1, h40, hk1, hk2, fun H13 s13 => ?_⟩
  have s013 := s012.trans s13
  walk_at "go"
  refine r_ne rfl ?_
  walk_at "go"
  refine ifNF rfl ?_
  walk_at "go"
  refine r_ixL (s013 _ _ ht) (at_n (i := 4) (v := .str (S (Qn.gord o.length kk num).ans)) rfl) ?_
  walk_at "go"
  obtain ⟨g1, g2, g3, g4, g5, g6⟩ := Qn.gord_rings hk1 hn
  have eT : (Qn.gord o.length kk num).ans = ordL (Obx.rings (Obx.orderBy (Obx.goodRings kk o.length (List.range o.length) num))) := by
    rw [g2]
    rfl
  rw [eT]
  have g4' : ∀ r ∈ Obx.rings (Obx.orderBy (Obx.goodRings kk o.length (List.range o.length) num)), r.length ≤ kk := by rw [g2]; exact g4
  have g5' : Obx.goodNo kk (Obx.rings (Obx.orderBy (Obx.goodRings kk o.length (List.range o.length) num))) (List.range o.length) = num := by rw [g2]; exact g5
  have g6' : Obx.Canon (List.range (Obx.orderBy (Obx.goodRings kk o.length (List.range o.length) num)).length) (Obx.rings (Obx.orderBy (Obx.goodRings kk o.length (List.range o.length) num))) := by rw [g2, g3]; exact g6
  generalize Obx.orderBy (Obx.goodRings kk o.length (List.range o.length) num) = gd at *
  refine ⟨gd, rfl, g1, by omega, by omega, fun g14 H14 ng14 s14 hg14 => ?_⟩
  have s014 := s013.trans s14
  walk_at "go"
  refine ⟨g14, kk, gd, rfl, hg14, g1, by omega, by omega, g4', g6', fun H15 s15 => ?_⟩
  rw [g3, g5']
  have s015 := s014.trans s15
  walk_at "go"
  refine r_ne rfl ?_
  walk_at "go"
  refine ifNF rfl ?_
  walk_at "go"
  refine ⟨g14, gd, rfl, s15 _ _ hg14, g1, by omega, fun p16 H16 np16 s16 ⟨as16, hp16, rt16⟩ => ?_⟩
  obtain ⟨rl16, rs16⟩ := rings_small g1
  walk_at "go"
  refine r_itl hp16 ?_
  refine lcL (xs := refs as16) (fun i => ni ((Obx.rings gd).getD i []).length) hp16 (by rw [List.length_map, rt16.len]; omega) ?_ fun D17 H17 nD17 s17 hD17 => ?_
  · intro i x H17 R hi s17 kR
    rw [List.getElem?_map] at hi
    obtain ⟨q, hq, rfl⟩ := Option.map_eq_some_iff.mp hi
    have hil : i < (Obx.rings gd).length := by rw [← rt16.len]; exact (List.getElem?_eq_some_iff.mp hq).1
    have hr := rt16.at_ i q (Obx.rings gd)[i] hq (List.getElem?_eq_getElem hil)
    have hg : (Obx.rings gd).getD i [] = (Obx.rings gd)[i] := by rw [List.getD_eq_getElem?_getD, List.getElem?_eq_getElem hil]; rfl
    walk_at "go"
    refine r_lenT (s17 _ _ hr) ?_
    rw [nis_len, ← hg]
    exact kR H17 (Same.refl _)
  rw [lens_eq _ (by rw [List.length_map, rt16.len])] at hD17
  walk_at "go"
  refine r_maxL hD17 (by rw [List.length_map]; exact List.length_pos_iff.mpr (rings_ne g1 (by omega))) fun m hm _ => ?_
  obtain ⟨r, hr', rfl⟩ := List.mem_map.mp hm
  have hrk := g4' r hr'
  walk_at "go"
  refine ifDF (by omega) ?_
  have s017 := s015.trans (s16.trans s17)
  have s1417 := s15.trans (s16.trans s17)
  walk_at "go"
  refine r_lenT (s1417 _ _ hg14) ?_
  rw [nis_len, g3]
  walk_at "go"
  refine r_ne rfl ?_
  walk_at "go"
  refine ifNF rfl ?_
  walk_at "go"
  refine r_ixL (s017 _ _ ht) (at_n (i := 5) (v := .str (S (TL.numL (Obx.G kk o.length)))) rfl) ?_
  walk_at "go"
  refine r_ixL (s017 _ _ ht) (at_n (i := 6) (v := .str (S (TL.numL (Obx.G kk o.length)))) rfl) ?_
  refine r_ne rfl ?_
  walk_at "go"
  refine ifNF rfl ?_
  walk_at "go"
  have hG6 : Obx.G kk o.length < 2 ^ 600 := f600 (Obx.gg_fact 1 kk o.length) h40
  refine r_ixL (s017 _ _ ht) (at_n (i := 5) (v := .str (S (TL.numL (Obx.G kk o.length)))) rfl) ?_
  walk_at "go"
  refine r_intN hG6 ?_
  walk_at "go"
  refine ifDF (by omega) ?_
  walk_at "go"
  have hsh1 : mal (List.replicate o.length kk) / gcdF (List.replicate o.length kk) < 2 ^ 600 := Nat.lt_of_le_of_lt (Nat.div_le_self _ _) (mal_bd (by rw [List.length_replicate]; exact h40))
  have hsh2 : Obx.fact (List.replicate o.length kk).length / gcdF (List.replicate o.length kk) < 2 ^ 600 := f600 (m := o.length) (by rw [List.length_replicate]; exact Nat.div_le_self _ _) h40
  have hsh := share_alike o.length kk h1
  have hsl : (TL.numL (mal (List.replicate o.length kk) / gcdF (List.replicate o.length kk)) ++ (wd " of " ++ TL.numL (Obx.fact (List.replicate o.length kk).length / gcdF (List.replicate o.length kk)))).length ≤ 1000 := by
    have l1 := numL200 hsh1
    have l2 := numL200 hsh2
    rw [List.length_append, List.length_append]
    show _ + (4 + _) ≤ _
    omega
  refine r_ixL (s017 _ _ ht) (at_n (i := 7) (v := .str (S (TL.numL (mal (List.replicate o.length kk) / gcdF (List.replicate o.length kk)) ++ (wd " of " ++ TL.numL (Obx.fact (List.replicate o.length kk).length / gcdF (List.replicate o.length kk)))))) rfl) ?_
  generalize mal (List.replicate o.length kk) / gcdF (List.replicate o.length kk) = A1 at *
  generalize Obx.fact (List.replicate o.length kk).length / gcdF (List.replicate o.length kk) = A2 at *
  walk_at "go"
  rw [litw " of "]
  refine r_split (b := wd " of ") (by decide) (by decide) (by omega) fun w18 H18 nw18 s18 hw18 => ?_
  rw [spl_of] at hw18
  refine ⟨w18, txts [TL.numL A1, TL.numL A2], rfl, SqL.of hw18, rfl, _, _, rfl, _, _, rfl, rfl, ?_⟩
  walk_at "go"
  refine r_intN hsh1 ?_
  walk_at "go"
  refine ⟨o.length, rfl, h1, h40, fun H19 s19 => ?_⟩
  have s019 := s017.trans (s18.trans s19)
  refine r_mul hsh1 (f600 (Nat.le_refl _) h40) ?_
  walk_at "go"
  refine r_ixL (s019 _ _ ht) (at_n (i := 5) (v := .str (S (TL.numL (Obx.G kk o.length)))) rfl) ?_
  walk_at "go"
  refine r_intN hG6 ?_
  walk_at "go"
  refine r_intN hsh2 ?_
  refine r_mul hG6 hsh2 ?_
  rw [hsh]
  refine r_ne rfl ?_
  walk_at "go"
  refine ifNF rfl ?_
  walk_at "go"
  have hop1 : mal ops / gcdF ops < 2 ^ 600 := Nat.lt_of_le_of_lt (Nat.div_le_self _ _) (mal_bd (by omega))
  have hop2 : Obx.fact ops.length / gcdF ops < 2 ^ 600 := f600 (m := ops.length) (Nat.div_le_self _ _) (by omega)
  have hop3 := share_divides ops
  have hop4 := share_pos ops
  rw [hlo] at hop2 hop3 hop4
  have hopl : (TL.numL (mal ops / gcdF ops) ++ (wd " of " ++ TL.numL (Obx.fact o.length / gcdF ops))).length ≤ 1000 := by
    have l1 := numL200 hop1
    have l2 := numL200 hop2
    rw [List.length_append, List.length_append]
    show _ + (4 + _) ≤ _
    omega
  refine r_ixL (s019 _ _ ht) (at_n (i := 8) (v := .str (S (TL.numL (mal ops / gcdF ops) ++ (wd " of " ++ TL.numL (Obx.fact o.length / gcdF ops))))) (by rw [← hlo]; rfl)) ?_
  generalize mal ops / gcdF ops = B1 at *
  generalize Obx.fact o.length / gcdF ops = B2 at *
  walk_at "go"
  refine r_split (b := wd " of ") (by decide) (by decide) (by omega) fun w20 H20 nw20 s20 hw20 => ?_
  rw [spl_of] at hw20
  refine ⟨w20, txts [TL.numL B1, TL.numL B2], rfl, SqL.of hw20, rfl, _, _, rfl, _, _, rfl, rfl, ?_⟩
  walk_at "go"
  refine r_isdig ?_
  walk_at "go"
  refine iteT ?_
  walk_at "go"
  refine ⟨o.length, rfl, h1, h40, fun H21 s21 => ?_⟩
  walk_at "go"
  refine r_intN hop2 ?_
  refine r_mod hop4 ?_
  walk_at "go"
  rw [hop3]
  refine r_eq rfl ?_
  exact k H21 (s019.trans (s20.trans s21))
end
section
variable {P : Program} {w : World} {K : PySem.W.Frag} {mg : Str → Option Value} {base : Heap}
open SX (S)
theorem if_cap {c : TT} {t : TS} {D : Ends} {σ : List (Option V)} {H : Hp} (R : List (Option V) → Hp → Prop) (h : ∀ N : List (Option V) → Hp → Prop, (∀ σ' H', R σ' H' → N σ' H') → tIfS c t tNext { D with nx := N } σ H) (h1 : ∀ σ' H', R σ' H' → D.nx σ' H') : tIfS c t tNext D σ H := h D.nx h1
theorem r_divX {H : Hp} {Q : VK} {c : Int} {b : Nat} (h0 : 0 < b) (hb : b < 2 ^ 600) (q : Q (.int (c / (b : Int))) H) : rI CDivW (fun i j => .int (i / j)) (.int c) (ni b) H Q :=
  ⟨c, b, rfl, rfl, wide_div (b := 600) (Int.natCast_pos.mpr h0) (by rw [Int.natAbs_natCast]; exact hb) (by decide) (by decide), q⟩
theorem r_modX {H : Hp} {Q : VK} {c : Int} {b : Nat} (h0 : 0 < b) (q : Q (ni (c % (b : Int)).toNat) H) : rI (fun _ j => 0 < j) (fun i j => .int (i % j)) (.int c) (ni b) H Q := by
  refine ⟨c, b, rfl, rfl, Int.natCast_pos.mpr h0, ?_⟩
  have h1 := Int.emod_nonneg c (show (b : Int) ≠ 0 by omega)
  have e : c % (b : Int) = (((c % (b : Int)).toNat : Nat) : Int) := by omega
  show Q (V.int (c % (b : Int))) H
  rw [e]
  exact q
def opAt (c : Int) (n i : Nat) : Nat := (c / ((7 : Nat) : Int) / ((i + 1 : Nat) : Int) % ((n + 1 : Nat) : Int)).toNat
theorem opAt_le (c : Int) (n i : Nat) : opAt c n i ≤ n := by
  have h1 := Int.emod_nonneg (c / ((7 : Nat) : Int) / ((i + 1 : Nat) : Int)) (show ((n + 1 : Nat) : Int) ≠ 0 by omega)
  have h2 := Int.emod_lt_of_pos (c / ((7 : Nat) : Int) / ((i + 1 : Nat) : Int)) (show (0 : Int) < ((n + 1 : Nat) : Int) by omega)
  unfold opAt
  omega
theorem cut_from {xs : List V} {m : Nat} (h : m ≤ xs.length) : cutV xs (some (m : Int)) none = xs.drop m := by
  unfold cutV
  rw [HT.sIx_nat, HT.sIx_none, Nat.min_eq_left h, List.take_of_length_le (by rw [List.length_drop]; exact Nat.le_refl _)]
theorem cut_to {xs : List V} {m : Nat} (h : m ≤ xs.length) : cutV xs none (some (m : Int)) = xs.take m := by
  unfold cutV
  rw [HT.sIx_nat, HT.sIx_none, Nat.min_eq_left h, List.drop_zero, Nat.sub_zero]
theorem r_from {H : Hp} {Q : VK} {p : Addr} {xs : List V} {m : Nat} (h : H p = some (.lst xs)) (hm : m ≤ xs.length) (q : ∀ p H', H p = none → Same H H' → H' p = some (.lst (xs.drop m)) → Q (.ref p) H') : rSlL K (.ref p) (some (m : Int)) none H Q :=
  ⟨p, xs, rfl, SqL.of h, fun l hl => q l _ hl (Same.new hl) (by rw [upd_same, cut_from hm])⟩
theorem r_upto {H : Hp} {Q : VK} {p : Addr} {xs : List V} {m : Nat} (h : H p = some (.lst xs)) (hm : m ≤ xs.length) (q : ∀ p H', H p = none → Same H H' → H' p = some (.lst (xs.take m)) → Q (.ref p) H') : rSlL K (.ref p) none (some (m : Int)) H Q :=
  ⟨p, xs, rfl, SqL.of h, fun l hl => q l _ hl (Same.new hl) (by rw [upd_same, cut_to hm])⟩
theorem turn_txts (l : List (List Nat)) (m : Nat) : (txts l).drop m ++ (txts l).take m = txts (l.drop m ++ l.take m) := by
  show (l.map _).drop m ++ (l.map _).take m = (l.drop m ++ l.take m).map _
  rw [List.map_append, List.map_drop, List.map_take]
theorem turn_map {α β : Type} (f : α → β) (l : List α) (m : Nat) : (l.map f).drop m ++ (l.map f).take m = (l.drop m ++ l.take m).map f := by
  rw [List.map_append, List.map_drop, List.map_take]
theorem jn (w : List Nat) (l : List (List Nat)) (h : l ≠ []) : w ++ ([32] ++ TL.joinL [32] l) = TL.joinL [32] (w :: l) := (joinL_cons [32] w h).symm
theorem words3 (a b c : List Nat) : TL.joinL [32] [a, b, c] = a ++ ([32] ++ (b ++ ([32] ++ c))) := rfl
theorem w_rings : wd "rings / " = wd "rings" ++ [32, 47, 32] := by decide
theorem w_find : wd "find " = wd "find" ++ [32] := by decide
theorem w_need : wd "need " = wd "need" ++ [32] := by decide
theorem w_help : wd "help " = wd "help" ++ [32] := by decide
theorem w_good : wd "good " = wd "good" ++ [32] := by decide
theorem w_gord : wd "goodorder " = wd "goodorder" ++ [32] := by decide
theorem w_group : wd "group " = wd "group" ++ [32] := by decide
theorem w_share : wd "share " = wd "share" ++ [32] := by decide
theorem w_sl : wd " / " = [32, 47, 32] := by decide
theorem t_rings (o : List Nat) : wd "rings / " ++ ordL (Obx.rings o) = (Qn.rings o).text := by
  rw [w_rings, List.append_assoc]
  rfl
theorem t_find {o ops : List Nat} (h : ops ≠ []) : wd "find " ++ TL.joinL [32] (ops.map TL.numL) ++ wd " / " ++ ordL (Obx.rings o) = (Qn.find o ops).text := by
  rw [w_find, w_sl, List.append_assoc (wd "find"), jn _ _ (fun z => h (List.map_eq_nil_iff.mp z)), List.append_assoc]
  rfl
theorem t_need (o : List Nat) (k : Nat) : wd "need " ++ TL.numL k ++ wd " / " ++ ordL (Obx.rings o) = (Qn.need o k).text := by
  rw [w_need, w_sl, List.append_assoc (wd "need"), List.append_assoc (wd "need" ++ _)]
  rfl
theorem t_help (o : List Nat) (k : Nat) : wd "help " ++ TL.numL k ++ wd " / " ++ ordL (Obx.rings o) = (Qn.help o k).text := by
  rw [w_help, w_sl, List.append_assoc (wd "help"), List.append_assoc (wd "help" ++ _)]
  rfl
theorem t_gord (n k num : Nat) : wd "goodorder " ++ TL.joinL [32] ([n, k, num].map TL.numL) = (Qn.gord n k num).text := by
  rw [w_gord, List.append_assoc, jn _ _ (by simp)]
  rfl
theorem t_good (n k : Nat) : wd "good " ++ TL.joinL [32] ([n, k].map TL.numL) = (Qn.good n k).text := by
  rw [w_good, List.append_assoc, jn _ _ (by simp)]
  rfl
theorem t_good2 (n k : Nat) : wd "good " ++ TL.numL n ++ wd " " ++ TL.numL k = (Qn.good n k).text := by
  rw [← t_good, show wd " " = [32] by decide, List.append_assoc, List.append_assoc]
  rfl
theorem t_group (n k : Nat) : wd "group " ++ TL.joinL [32] ([n, k, n].map TL.numL) = (Qn.group n k).text := by
  rw [w_group, List.append_assoc, jn _ _ (by simp)]
  rfl
theorem t_share {l : List Nat} (h : l ≠ []) : wd "share " ++ TL.joinL [32] (l.map TL.numL) = (Qn.share l).text := by
  rw [w_share, List.append_assoc, jn _ _ (fun z => h (List.map_eq_nil_iff.mp z))]
  rfl
theorem wlen {l : List Nat} (h1 : l.length ≤ 60) (h2 : ∀ x ∈ l, x < 2 ^ 600) : (TL.joinL [32] (l.map TL.numL)).length ≤ 20000 := by
  refine Nat.le_trans (joinL_len [32] 200 (l.map TL.numL) fun p hp => ?_) ?_
  · obtain ⟨x, hx, rfl⟩ := List.mem_map.mp hp
    exact numL200 (h2 x hx)
  · rw [List.length_map]
    show l.length * 201 ≤ _
    omega
/-! ### law -/
theorem ok_law {f : Addr} {fd : FuncData} (F : FnP K "law" slaw f fd) (hd__law_all : Dc P w K mg base "_law_all" ["script"] 1 (sp__law_all K)) (hd__law_cell_at : Dc P w K mg base "_law_cell_at" ["script", "k"] 1 (sp__law_cell_at K)) (hd__law_order : Dc P w K mg base "_law_order" ["cell", "many"] 1 sp__law_order) (hd__law_right : Dc P w K mg base "_law_right" ["order", "openings", "k", "number", "told"] 5 sp__law_right) (hd__law_words : Dc P w K mg base "_law_words" ["numbers"] 1 sp__law_words) (hd_answered : Dc P w K mg base "answered" ["sheet"] 8 sp_answered) (hd_order_text : Dc P w K mg base "order_text" ["order"] 3 sp_order_text) (hb_int : mg "int" = none) (hb_len : mg "len" = none) (hb_max : mg "max" = none) (hb_range : mg "range" = none) (hb_str : mg "str" = none) (hb_tuple : mg "tuple" = none) : FnOk P w K mg base CX0 9 f fd ["script"] (sp_law K) := by
  have sc : FnScope ["script", "cell", "people", "order", "k", "openings", "j", "text", "first", "number", "rows", "told", "at", "again"] ["script"] (defScope slaw) := ⟨rfl, rfl, rfl, by decide +kernel, rfl, by decide +kernel, by decide +kernel⟩
  refine F.ok sc (fun vs H Q E h => by (obtain ⟨_, _, rfl, _⟩ := h; rfl)) (fun cdv A outer s H vs Q E hr h => ?_)
  have hu64 := hu64_of hr

  obtain ⟨a, ns, rfl, ha, hns, hb, k⟩ := h
  refine ⟨_, PSs.nox (pss_cons (ps_set (i := 1) sc.nd rfl (Or.inr rfl) (pcall hd__law_all hr rfl (pa_cons (pv 0) pa_nil)))
      (pss_cons (ps_set (i := 2) sc.nd rfl (Or.inr rfl) (pe_op op_add pe_int (pe_op op_mod (pcall hd__law_cell_at hr rfl (pa_cons (pv 0) (pa_cons pe_int pa_nil))) pe_int)))
      (pss_cons (ps_if (pt_cmpR op_eq (pe_op op_mod (pe_op op_fdivW (pcall hd__law_cell_at hr rfl (pa_cons (pv 0) (pa_cons pe_int pa_nil))) pe_int) pe_int) pe_int (nomark _)) (pss_one (ps_set (i := 2) sc.nd rfl (Or.inr rfl) (pe_op op_add pe_int (pe_op op_mod (pe_op op_fdivW (pcall hd__law_cell_at hr rfl (pa_cons (pv 0) (pa_cons pe_int pa_nil))) pe_int) pe_int)))) pss_nil)
      (pss_cons (ps_set (i := 3) sc.nd rfl (Or.inl rfl) (pcall hd__law_order hr rfl (pa_cons (pv 1) (pa_cons (pv 2) pa_nil))))
      (pss_cons (ps_set (i := 4) sc.nd rfl (Or.inl rfl) (pe_op op_add pe_int (pe_op op_mod (pe_op op_fdivW (pv 1) pe_int) (pv 2))))
      (pss_cons (ps_set (i := 5) sc.nd rfl (Or.inl rfl) (pe_callTy (k_tupOf (K := K) rfl) (by rfl) hb_tuple (by decide +kernel) (pa_cons (pe_lc (own := [("j", 6)]) rfl sc.nd (pi_range1 rfl hb_range (pa_cons (pv 2) pa_nil)) (blkOk_by (N := ["script", "cell", "people", "order", "k", "openings", "j", "text", "first", "number", "rows", "told", "at", "again"]) (sc := defScope slaw) (by decide +kernel)) (fun _ _ _ _ _ => (pg_name (i := 6) sc.nd rfl (Or.inl rfl))) (fun _ _ _ _ _ => pts_nil) (fun _ _ _ _ _ => (pe_op op_mod (pe_op op_fdivW (pe_op op_fdivW (pv 1) pe_int) (pe_op op_add (pv 6) pe_int)) (pe_op op_add (pv 2) pe_int)))) pa_nil)))
      (pss_cons (ps_set (i := 7) sc.nd rfl (Or.inl rfl) (pcall hd_order_text hr rfl (pa_cons (pv 3) pa_nil)))
      (pss_cons (ps_set (i := 8) sc.nd rfl (Or.inl rfl) (pcall hd_answered hr rfl (pa_cons (pe_op op_addS (pe_op op_addS (pe_op op_addS pe_str (pe_callTy call_strA (by rfl) hb_str (by decide +kernel) (pa_cons (pv 2) pa_nil))) pe_str) (pe_callTy call_strA (by rfl) hb_str (by decide +kernel) (pa_cons (pv 4) pa_nil))) pa_nil)))
      (pss_cons (ps_set (i := 9) sc.nd rfl (Or.inl rfl) (pe_op op_mod (pe_op op_fdivW (pv 1) pe_int) (pe_callB (call_max2N rfl) (by rfl) hb_max (by decide +kernel) (pa_cons pe_int (pa_cons (pe_callTy call_intStr (by rfl) hb_int (by decide +kernel) (pa_cons (pv 8) pa_nil)) pa_nil)))))
      (pss_cons (ps_set (i := 10) sc.nd rfl (Or.inl rfl) (pe_lst (pa_cons (pe_op op_addS pe_str (pv 7)) (pa_cons (pe_op op_addS (pe_op op_addS (pe_op op_addS pe_str (pcall hd__law_words hr rfl (pa_cons (pv 5) pa_nil))) pe_str) (pv 7)) pa_nil))))
      (pss_cons (ps_expr (k_bm (K := K) rfl PySem.F.plainAttrs_list PySem.F.slot_list_append PySem.F.type_list_append mt_append (pv 10) (pa_cons (pe_op op_addS (pe_op op_addS (pe_op op_addS pe_str (pe_callTy call_strA (by rfl) hb_str (by decide +kernel) (pa_cons (pv 4) pa_nil))) pe_str) (pv 7)) pa_nil)))
      (pss_cons (ps_set (i := 10) sc.nd rfl (Or.inl rfl) (pe_op op_cat (pv 10) (pe_lst (pa_cons (pe_op op_addS (pe_op op_addS (pe_op op_addS pe_str (pe_callTy call_strA (by rfl) hb_str (by decide +kernel) (pa_cons (pv 4) pa_nil))) pe_str) (pv 7)) (pa_cons (pe_op op_addS pe_str (pcall hd__law_words hr rfl (pa_cons (pe_lst (pa_cons (pv 2) (pa_cons (pv 4) (pa_cons (pv 9) pa_nil)))) pa_nil))) pa_nil)))))
      (pss_cons (ps_set (i := 10) sc.nd rfl (Or.inl rfl) (pe_op op_cat (pv 10) (pe_lst (pa_cons (pe_op op_addS pe_str (pcall hd__law_words hr rfl (pa_cons (pe_lst (pa_cons (pv 2) (pa_cons (pv 4) pa_nil))) pa_nil))) (pa_cons (pe_op op_addS pe_str (pcall hd__law_words hr rfl (pa_cons (pe_lst (pa_cons (pv 2) (pa_cons (pv 4) (pa_cons (pv 2) pa_nil)))) pa_nil))) pa_nil)))))
      (pss_cons (ps_set (i := 10) sc.nd rfl (Or.inl rfl) (pe_op op_cat (pv 10) (pe_lst (pa_cons (pe_op op_addS pe_str (pcall hd__law_words hr rfl (pa_cons (pe_op op_rep (pe_lst (pa_cons (pv 4) pa_nil)) (pv 2)) pa_nil))) (pa_cons (pe_op op_addS pe_str (pcall hd__law_words hr rfl (pa_cons (pv 5) pa_nil))) pa_nil)))))
      (pss_cons (ps_set (i := 11) sc.nd rfl (Or.inl rfl) (pe_m1 PySem.F.slot_str_split PySem.F.type_str_split mt_splitN' (pcall hd_answered hr rfl (pa_cons (pe_m1 PySem.F.slot_str_join PySem.F.type_str_join (k_join (K := K) rfl) pe_str (pv 10)) pa_nil)) pe_str))
      (pss_cons (ps_if (PW.pt (pw_or (pt_cmpR op_ne (pe_callB (k_len (K := K) rfl) (by rfl) hb_len PySem.boot_len (pa_cons (pv 11) pa_nil)) (pe_callB (k_len (K := K) rfl) (by rfl) hb_len PySem.boot_len (pa_cons (pv 10) pa_nil)) (nomark _)) (pw_or1 (pt_not (pt_val (pcall hd__law_right hr rfl (pa_cons (pv 3) (pa_cons (pv 5) (pa_cons (pv 4) (pa_cons (pv 9) (pa_cons (pv 11) pa_nil))))))))))) (pss_one (ps_ret pe_bl)) pss_nil)
      (pss_cons (ps_set (i := 12) sc.nd rfl (Or.inl rfl) (pe_op op_mod (pv 1) (pe_callB (k_len (K := K) rfl) (by rfl) hb_len PySem.boot_len (pa_cons (pv 10) pa_nil))))
      (pss_cons (ps_set (i := 13) sc.nd rfl (Or.inl rfl) (pcall hd_answered hr rfl (pa_cons (pe_m1 PySem.F.slot_str_join PySem.F.type_str_join (k_join (K := K) rfl) pe_str (pe_op op_cat (pe_slice (k_slL (K := K) rfl) (pv 10) (po_some (pv 12)) po_none) (pe_slice (k_slL (K := K) rfl) (pv 10) po_none (po_some (pv 12))))) pa_nil)))
      (pss_one (ps_ret (pe_cmpR (k_eqD (K := K) rfl hu64) (pe_m1 PySem.F.slot_str_split PySem.F.type_str_split mt_splitN' (pv 13) pe_str) (pe_op op_cat (pe_slice (k_slL (K := K) rfl) (pv 11) (po_some (pv 12)) po_none) (pe_slice (k_slL (K := K) rfl) (pv 11) po_none (po_some (pv 12)))) (nomark _)))))))))))))))))))))), ?_⟩
  walk_at "go"
  refine ⟨a, ns, rfl, ha, hns, hb, fun c H1 s1 => ?_⟩
  walk_at "go"
  refine ⟨a, ns, 0, rfl, SqLsame s1 ha, fun z H2 s2 => ?_⟩
  walk_at "go"
  refine r_modI (b := 12) (by decide) fun m2 hm2 => ?_
  have s02 := s1.trans s2
  refine r_I0 ?_
  rw [int1]
  with_reducible refine r_name ?_
  with_reducible refine r_seq ?_
  refine if_cap (fun σ' H' => ∃ n, σ' = [some (.ref a), some (.int c), some (ni n), none, none, none, none, none, none, none, none, none, none, none] ∧ Same H H' ∧ 1 ≤ n ∧ n ≤ 40) (fun N hN => ?_) ?_
  · walk_at "go"
    refine ⟨a, ns, 0, rfl, SqLsame s02 ha, fun z2 H3 s3 => ?_⟩
    walk_at "go"
    refine r_divI (b := 12) (by decide) (by decide) fun z3 => ?_
    walk_at "go"
    refine r_modI (b := 8) (by decide) fun m3 hm3 => ?_
    walk_at "go"
    refine r_eq rfl ?_
    walk_at "go"
    have s03 := s02.trans s3
    refine ifD (fun _ => ?_) (fun _ => ?_)
    · walk_at "go"
      refine ⟨a, ns, 0, rfl, SqLsame s03 ha, fun z4 H4 s4 => ?_⟩
      walk_at "go"
      refine r_divI (b := 96) (by decide) (by decide) fun z5 => ?_
      walk_at "go"
      refine r_modI (b := 28) (by decide) fun m5 hm5 => ?_
      walk_at "go"
      have e : V.int ((13 : Int) + (m5 : Int)) = ni (m5 + 13) := by rw [Int.add_comm]; rfl
      rw [e]
      exact hN _ _ ⟨m5 + 13, rfl, s03.trans s4, by omega, by omega⟩
    · exact hN _ _ ⟨m2 + 1, rfl, s03, by omega, by omega⟩
  clear s02 s2 s1
  rintro σ H3 ⟨n, rfl, s3, hn1, hn40⟩
  walk_at "go"
  refine ⟨c, n, rfl, by omega, fun oa H4 o no4 s4 ho hol io => ?_⟩
  walk_at "go"
  refine r_divI (b := 5) (by decide) (by decide) fun c5 => ?_
  walk_at "go"
  refine r_modI (b := n) (by omega) fun m6 hm6 => ?_
  walk_at "go"
  rw [int1]
  have hk2 : m6 + 1 ≤ n := hm6
  have hk1 : 1 ≤ m6 + 1 := by omega
  generalize m6 + 1 = kk at hk1 hk2
  refine r_rng1 (n := n) (by omega) ?_
  refine lcR (n := n) (fun i => ni (opAt c n i)) (by omega) ?_ fun D H5 nD s5 hD => ?_
  · intro i H5 R hi s5 kR
    walk_at "go"
    refine r_divX (b := 7) (by decide) (by decide) ?_
    walk_at "go"
    rw [ni_succ]
    refine r_divX (b := i + 1) (by omega) (s600 (by omega)) ?_
    walk_at "go"
    rw [ni_succ]
    refine r_modX (b := n + 1) (by omega) ?_
    exact kR H5 (Same.refl _)
  have hD' : H5 D = some (.lst (nis ((List.range n).map (opAt c n)))) := by
    rw [hD]
    show _ = some (HO.lst (((List.range n).map (opAt c n)).map ni))
    rw [List.map_map]
    rfl
  have hopl : ((List.range n).map (opAt c n)).length = n := by rw [List.length_map, List.length_range]
  have hopx : ∀ x ∈ (List.range n).map (opAt c n), x ≤ n := fun x hx => by
    obtain ⟨i, _, rfl⟩ := List.mem_map.mp hx
    exact opAt_le c n i
  generalize (List.range n).map (opAt c n) = ops at hD' hopl hopx
  clear hD
  walk_at "go"
  refine r_tupL hD' fun pa H6 npa s6 hpa => ?_
  walk_at "go"
  have s46 := s5.trans s6
  refine ⟨oa, o, rfl, s46 _ _ ho, io, by omega, fun H7 s7 => ?_⟩
  have s47 := s46.trans s7
  walk_at "go"
  have hkn : kk ≤ 1000 := by omega
  have hnn : n ≤ 1000 := by omega
  have l1 := numL4 hkn
  have l2 := numL4 hnn
  have hol2 := Qn.ord_len io (by omega)
  have sp : (wd " ").length = 1 := by decide
  have lg : (wd "good ").length = 5 := by decide
  refine r_strI (s600 hnn) ?_
  rw [litw "good ", litw " "]
  refine r_addS (by omega) ?_
  walk_at "go"
  refine r_addS (by rw [List.length_append]; omega) ?_
  walk_at "go"
  refine r_strI (s600 hkn) ?_
  refine r_addS (by rw [List.length_append, List.length_append]; omega) ?_
  rw [t_good2]
  walk_at "go"
  refine ⟨[Qn.good n kk], rfl, by simp, by simp, fun q hq => ?_, fun H8 s8 => ?_⟩
  · rw [List.mem_singleton] at hq
    subst hq
    exact ⟨hn1, hn40, hk1, hk2⟩
  show gName 8 (V.str (S (TL.numL (Obx.G kk n)))) _ _ _
  walk_at "go"
  refine r_divI (b := 11) (by decide) (by decide) fun c9 => ?_
  walk_at "go"
  have hG6 : Obx.G kk n < 2 ^ 600 := f600 (Obx.gg_fact 1 kk n) hn40
  have hGp : 0 < Obx.G kk n := Obx.G_pos hk1 n
  refine r_intN hG6 ?_
  walk_at "go"
  refine r_max2 (a := 1) ?_
  rw [show max 1 (Obx.G kk n) = Obx.G kk n by omega]
  walk_at "go"
  refine r_modI (b := Obx.G kk n) hGp fun num hnum => ?_
  walk_at "go"
  have s48 := s47.trans s8
  have R0 : RowsOk o ops kk num := ⟨io, by omega, by omega, by omega, by rw [hol]; exact hopx, hk1, by omega, by rw [hol]; exact hnum⟩
  have hnum6 : num < 2 ^ 600 := Nat.lt_trans hnum hG6
  have hon : ops ≠ [] := fun z => by rw [z] at hopl; have : 0 = n := hopl; omega
  have hop6 : ∀ x ∈ ops, x < 2 ^ 600 := fun x hx => s600 (by have := hopx x hx; omega)
  have wl := wlen (l := ops) (by omega) hop6
  rw [litw "rings / ", litw "find ", litw " / ", litw "need ", litw "help ", litw "goodorder ", litw "group ", litw "share "]
  refine r_addS (by show 8 + _ ≤ _; omega) ?_
  rw [t_rings]
  walk_at "go"
  refine ⟨pa, ops, rfl, .inr ((s7.trans s8) _ _ hpa), by omega, hop6, fun H9 s9 => ?_⟩
  refine r_addS (by show 5 + _ ≤ _; omega) ?_
  walk_at "go"
  refine r_addS (by rw [List.length_append]; show 5 + _ + 3 ≤ _; omega) ?_
  walk_at "go"
  refine r_addS (by rw [List.length_append, List.length_append]; show 5 + _ + 3 + _ ≤ _; omega) ?_
  rw [t_find hon]
  walk_at "go"
  refine new_lst (by show 2 ≤ sizeLine; decide) fun r1 H10 nr1 s10 hr1 => ?_
  walk_at "go"
  refine r_bmL hr1 ?_
  walk_at "go"
  refine r_strI (s600 hkn) ?_
  refine r_addS (by show 5 + _ ≤ _; omega) ?_
  walk_at "go"
  refine r_addS (by rw [List.length_append]; show 5 + _ + 3 ≤ _; omega) ?_
  walk_at "go"
  refine r_addS (by rw [List.length_append, List.length_append]; show 5 + _ + 3 + _ ≤ _; omega) ?_
  rw [t_need]
  walk_at "go"
  refine r_app hr1 (smaller (by show 2 < 100000; decide)) fun H11 b11 hr11 => ?_
  have nr0 : H4 r1 = none := (s48.trans s9).free nr1
  have s411 : Same H4 H11 := but_same ((s48.trans s9).trans s10) nr0 b11
  have npar : pa ≠ r1 := fun z => by
    have := ((s7.trans s8).trans s9) _ _ hpa
    rw [z, nr1] at this
    cases this
  have hpa11 : H11 pa = some (.tup (nis ops)) := but_at b11 ((((s7.trans s8).trans s9).trans s10) _ _ hpa) npar
  walk_at "go"
  refine r_strI (s600 hkn) ?_
  refine r_addS (by show 5 + _ ≤ _; omega) ?_
  walk_at "go"
  refine r_addS (by rw [List.length_append]; show 5 + _ + 3 ≤ _; omega) ?_
  walk_at "go"
  refine r_addS (by rw [List.length_append, List.length_append]; show 5 + _ + 3 + _ ≤ _; omega) ?_
  rw [t_help]
  walk_at "go"
  refine new_lst (by show 3 ≤ sizeLine; decide) fun v1 H12 nv1 s12 hv1 => ?_
  have w3 : ∀ x ∈ [n, kk, num], x < 2 ^ 600 := fun x hx => by
    simp only [List.mem_cons, List.mem_nil_iff, or_false] at hx
    rcases hx with rfl | rfl | rfl
    · exact s600 hnn
    · exact s600 hkn
    · exact hnum6
  refine ⟨v1, [n, kk, num], rfl, .inl hv1, by simp, w3, fun H13 s13 => ?_⟩
  have wl3 := wlen (l := [n, kk, num]) (by simp) w3
  refine r_addS (by show 10 + _ ≤ _; omega) ?_
  rw [t_gord]
  walk_at "go"
  refine new_lst (by show 2 ≤ sizeLine; decide) fun r2 H14 nr2 s14 hr2 => ?_
  have s1114 := (s12.trans s13).trans s14
  refine r_cat (s1114 _ _ hr11) hr2 (by show 3 + 2 ≤ sizeLine; decide) fun r3 H15 nr3 s15 hr3 => ?_
  walk_at "go"
  refine new_lst (by show 2 ≤ sizeLine; decide) fun v2 H16 nv2 s16 hv2 => ?_
  have w2 : ∀ x ∈ [n, kk], x < 2 ^ 600 := fun x hx => by
    simp only [List.mem_cons, List.mem_nil_iff, or_false] at hx
    rcases hx with rfl | rfl
    · exact s600 hnn
    · exact s600 hkn
  refine ⟨v2, [n, kk], rfl, .inl hv2, by simp, w2, fun H17 s17 => ?_⟩
  have wl2 := wlen (l := [n, kk]) (by simp) w2
  refine r_addS (by show 5 + _ ≤ _; omega) ?_
  rw [t_good]
  walk_at "go"
  refine new_lst (by show 3 ≤ sizeLine; decide) fun v3 H18 nv3 s18 hv3 => ?_
  have w4 : ∀ x ∈ [n, kk, n], x < 2 ^ 600 := fun x hx => by
    simp only [List.mem_cons, List.mem_nil_iff, or_false] at hx
    rcases hx with rfl | rfl | rfl
    · exact s600 hnn
    · exact s600 hkn
    · exact s600 hnn
  refine ⟨v3, [n, kk, n], rfl, .inl hv3, by simp, w4, fun H19 s19 => ?_⟩
  have wl4 := wlen (l := [n, kk, n]) (by simp) w4
  refine r_addS (by show 6 + _ ≤ _; omega) ?_
  rw [t_group]
  walk_at "go"
  refine new_lst (by show 2 ≤ sizeLine; decide) fun r4 H20 nr4 s20 hr4 => ?_
  have s1520 := (s16.trans s17).trans ((s18.trans s19).trans s20)
  refine r_cat (s1520 _ _ hr3) hr4 (by show 5 + 2 ≤ sizeLine; decide) fun r5 H21 nr5 s21 hr5 => ?_
  walk_at "go"
  refine new_lst (by show 1 ≤ sizeLine; decide) fun v4 H22 nv4 s22 hv4 => ?_
  walk_at "go"
  refine r_rep1 (x := kk) (n := n) hv4 (by omega) fun v5 H23 nv5 s23 hv5 => ?_
  walk_at "go"
  have w5 : ∀ x ∈ List.replicate n kk, x < 2 ^ 600 := fun x hx => by
    rw [List.eq_of_mem_replicate hx]
    exact s600 hkn
  refine ⟨v5, List.replicate n kk, rfl, .inl hv5, by rw [List.length_replicate]; omega, w5, fun H24 s24 => ?_⟩
  have wl5 := wlen (l := List.replicate n kk) (by rw [List.length_replicate]; omega) w5
  refine r_addS (by show 6 + _ ≤ _; omega) ?_
  rw [t_share (fun z => by have := congrArg List.length z; rw [List.length_replicate] at this; have : n = 0 := this; omega)]
  walk_at "go"
  have s1524 := (s1520.trans s21).trans ((s22.trans s23).trans s24)
  have s1124 := (s1114.trans s15).trans s1524
  refine ⟨pa, ops, rfl, .inr (s1124 _ _ hpa11), by omega, hop6, fun H25 s25 => ?_⟩
  refine r_addS (by show 6 + _ ≤ _; omega) ?_
  rw [t_share hon]
  walk_at "go"
  refine new_lst (by show 2 ≤ sizeLine; decide) fun r6 H26 nr6 s26 hr6 => ?_
  have s2126 := (s22.trans s23).trans ((s24.trans s25).trans s26)
  refine r_cat (s2126 _ _ hr5) hr6 (by show 7 + 2 ≤ sizeLine; decide) fun r7 H27 nr7 s27 hr7 => ?_
  have hrows : H27 r7 = some (.lst (txts ((rowsOf o ops kk num).map Qn.text))) := by
    rw [hr7]
    unfold rowsOf
    rw [hol]
    rfl
  have oks := R0.ok
  have hlen9 : (rowsOf o ops kk num).length = 9 := rfl
  have hans9 : (txts ((rowsOf o ops kk num).map Qn.ans)).length = 9 := rfl
  have htx9 : (txts ((rowsOf o ops kk num).map Qn.text)).length = 9 := rfl
  have s411' : Same H11 H27 := (s1124.trans s25).trans (s26.trans s27)
  have ho27 : H27 oa = some (.tup (nis o)) := s411' _ _ (s411 _ _ ho)
  have hpa27 : H27 pa = some (.tup (nis ops)) := s411' _ _ hpa11
  have s027 : Same H H27 := (s3.trans s4).trans (s411.trans s411')
  generalize hrs : rowsOf o ops kk num = rs at hrows oks hlen9 hans9 htx9
  have bT : ∀ y ∈ rs.map Qn.text, y.length ≤ 3000 := fun y hy => by
    obtain ⟨q, hq, rfl⟩ := List.mem_map.mp hy
    exact Qn.text_len (oks q hq)
  walk_at "go"
  rw [e_nl]
  walk_at "go"
  refine r_join hrows 3000 bT (by rw [List.length_map, hlen9]; decide) ?_
  walk_at "go"
  have hne : rs ≠ [] := fun z => by rw [z] at hlen9; cases hlen9
  refine ⟨rs, rfl, hne, by omega, oks, fun H28 s28 => ?_⟩
  walk_at "go"
  have hjl : ∀ qs : List Qn, qs.length ≤ 20 → (∀ q ∈ qs, q.ok) → (TL.joinL [10] (qs.map Qn.ans)).length ≤ 100000 := fun qs h20 okq => by
    refine Nat.le_trans (joinL_len [10] 1000 (qs.map Qn.ans) fun p hp => ?_) ?_
    · obtain ⟨q, hq, rfl⟩ := List.mem_map.mp hp
      exact (Qn.ans_ok (okq q hq)).1
    · rw [List.length_map]
      show _ * 1001 ≤ _
      omega
  have hsp : ∀ qs : List Qn, qs ≠ [] → (∀ q ∈ qs, q.ok) → TL.spl [10] 0 [] (TL.joinL [10] (qs.map Qn.ans)) = qs.map Qn.ans := fun qs hq okq => by
    refine TL.spl_join (s := 10) (S := []) (fun z => hq (List.map_eq_nil_iff.mp z)) fun p hp => ?_
    obtain ⟨q, hq', rfl⟩ := List.mem_map.mp hp
    exact (Qn.ans_ok (okq q hq')).2
  refine r_split (b := [10]) (by simp) (by decide) (by have := hjl rs (by omega) oks; omega) fun td H29 ntd s29 htd => ?_
  rw [hsp rs hne oks] at htd
  walk_at "go"
  refine r_lenL htd ?_
  walk_at "go"
  have hr29 := (s28.trans s29) _ _ hrows
  refine r_lenL hr29 ?_
  rw [hans9, htx9]
  refine r_ne rfl ?_
  walk_at "go"
  refine ifNF rfl ?_
  walk_at "go"
  refine ⟨oa, pa, td, o, ops, kk, num, rfl, (s28.trans s29) _ _ ho27, (s28.trans s29) _ _ hpa27, by rw [hrs]; exact htd, R0, fun H30 s30 => ?_⟩
  walk_at "go"
  refine iteF ?_
  walk_at "go"
  have hr30 := s30 _ _ hr29
  have htd30 := s30 _ _ htd
  refine r_lenL hr30 ?_
  rw [htx9]
  refine r_modI (b := 9) (by decide) fun m hm => ?_
  walk_at "go"
  refine r_from hr30 (by omega) fun x1 H31 nx1 s31 hx1 => ?_
  walk_at "go"
  refine r_upto (s31 _ _ hr30) (by omega) fun x2 H32 nx2 s32 hx2 => ?_
  refine r_cat (s32 _ _ hx1) hx2 (small (by rw [List.length_drop, List.length_take]; omega)) fun x3 H33 nx3 s33 hx3 => ?_
  rw [turn_txts, turn_map] at hx3
  have hqs : (rs.drop m ++ rs.take m).length = 9 := by rw [List.length_append, List.length_drop, List.length_take]; omega
  have okq : ∀ q ∈ rs.drop m ++ rs.take m, q.ok := fun q hq => (List.mem_append.mp hq).elim (fun z => oks q (List.mem_of_mem_drop z)) (fun z => oks q (List.mem_of_mem_take z))
  have etm : (rs.map Qn.ans).drop m ++ (rs.map Qn.ans).take m = (rs.drop m ++ rs.take m).map Qn.ans := turn_map Qn.ans rs m
  generalize rs.drop m ++ rs.take m = qs at hx3 hqs okq etm
  have hqn : qs ≠ [] := fun z => by rw [z] at hqs; cases hqs
  refine r_join hx3 3000 (fun y hy => by
    obtain ⟨q, hq, rfl⟩ := List.mem_map.mp hy
    exact Qn.text_len (okq q hq)) (by rw [List.length_map, hqs]; decide) ?_
  walk_at "go"
  refine ⟨qs, rfl, hqn, by omega, okq, fun H34 s34 => ?_⟩
  walk_at "go"
  refine r_split (b := [10]) (by simp) (by decide) (by have := hjl qs (by omega) okq; omega) fun y1 H35 ny1 s35 hy1 => ?_
  rw [hsp qs hqn okq] at hy1
  walk_at "go"
  have s3035 := ((s31.trans s32).trans s33).trans (s34.trans s35)
  refine r_from (s3035 _ _ htd30) (by omega) fun y2 H36 ny2 s36 hy2 => ?_
  walk_at "go"
  refine r_upto ((s3035.trans s36) _ _ htd30) (by omega) fun y3 H37 ny3 s37 hy3 => ?_
  refine r_cat (s37 _ _ hy2) hy3 (small (by rw [List.length_drop, List.length_take]; omega)) fun y4 H38 ny4 s38 hy4 => ?_
  rw [turn_txts, etm] at hy4
  have la : ∀ y ∈ qs.map Qn.ans, Lo y := fun y hy => by
    obtain ⟨q, _, rfl⟩ := List.mem_map.mp hy
    exact lo_ans q
  refine r_eqX (((s36.trans s37).trans s38) _ _ hy1) hy4 la la ?_
  rw [decide_eq_true rfl]
  exact k H38 (s027.trans ((s28.trans s29).trans (s30.trans (s3035.trans ((s36.trans s37).trans s38)))))
end
theorem facts {P : Program} {w : World} {K : PySem.W.Frag} {h : Heap} {mg : Str → Option Value} {f : Addr} (X : K.In h) (G : h.Ns mainGlobals mg) (hfa : mg ("law" : Str) = some (.ref f)) (c : He.SaysD Obh.fa Obh.fn K) :
    ∃ fd : FuncData, (∀ (s : Shared) (v : Value), BindsTo s fd ⟨[v], []⟩ [("script", v)]) ∧ ∀ base : Heap, K.In base → base.Ns mainGlobals mg → FnOk P w K mg base CX0 9 f fd ["script"] (sp_law K) := by
  have b_enumerate : mg "enumerate" = none := He.free_ok X G (c.fact 57 (f := .free "enumerate") rfl)
  have b_int : mg "int" = none := He.free_ok X G (c.fact 60 (f := .free "int") rfl)
  have b_len : mg "len" = none := He.free_ok X G (c.fact 50 (f := .free "len") rfl)
  have b_list : mg "list" = none := He.free_ok X G (c.fact 53 (f := .free "list") rfl)
  have b_max : mg "max" = none := He.free_ok X G (c.fact 56 (f := .free "max") rfl)
  have b_min : mg "min" = none := He.free_ok X G (c.fact 55 (f := .free "min") rfl)
  have b_range : mg "range" = none := He.free_ok X G (c.fact 51 (f := .free "range") rfl)
  have b_sorted : mg "sorted" = none := He.free_ok X G (c.fact 52 (f := .free "sorted") rfl)
  have b_str : mg "str" = none := He.free_ok X G (c.fact 59 (f := .free "str") rfl)
  have b_sum : mg "sum" = none := He.free_ok X G (c.fact 58 (f := .free "sum") rfl)
  have b_tuple : mg "tuple" = none := He.free_ok X G (c.fact 54 (f := .free "tuple") rfl)
  obtain ⟨t_FIGURES, c_FIGURES⟩ := He.str_ok X G (c.fact 63 (f := .str "FIGURES" "0123456789") rfl)
  obtain ⟨t_MOST_BOXES, c_MOST_BOXES⟩ := He.int_ok X G (c.fact 61 (f := .int "MOST_BOXES" 60) rfl)
  obtain ⟨t_MOST_FIGURES, c_MOST_FIGURES⟩ := He.int_ok X G (c.fact 64 (f := .int "MOST_FIGURES" 90) rfl)
  obtain ⟨t_MOST_PEOPLE_counting, c_MOST_PEOPLE_counting⟩ := He.int_ok X G (c.fact 62 (f := .int "MOST_PEOPLE_counting" 60) rfl)
  obtain ⟨t_MOST_PEOPLE_sheet, c_MOST_PEOPLE_sheet⟩ := He.int_ok X G (c.fact 65 (f := .int "MOST_PEOPLE_sheet" 60) rfl)
  obtain ⟨t_REFUSED, c_REFUSED⟩ := He.str_ok X G (c.fact 66 (f := .str "REFUSED" "refused") rfl)
  obtain ⟨d_is_each_once, F_is_each_once⟩ := c.def_ 0 (d := Obh.dis_each_once) rfl
  have g_is_each_once := He.glo_ok X G (c.fact 0 (f := .glo "is_each_once") rfl)
  obtain ⟨d_ring_from, F_ring_from⟩ := c.def_ 1 (d := Obh.dring_from) rfl
  have g_ring_from := He.glo_ok X G (c.fact 1 (f := .glo "ring_from") rfl)
  obtain ⟨d_exchanged, F_exchanged⟩ := c.def_ 4 (d := Obh.dexchanged) rfl
  have g_exchanged := He.glo_ok X G (c.fact 4 (f := .glo "exchanged") rfl)
  obtain ⟨d_look_at_openings, F_look_at_openings⟩ := c.def_ 5 (d := Obh.dlook_at_openings) rfl
  have g_look_at_openings := He.glo_ok X G (c.fact 5 (f := .glo "look_at_openings") rfl)
  obtain ⟨d_boxes_followed, F_boxes_followed⟩ := c.def_ 7 (d := Obh.dboxes_followed) rfl
  have g_boxes_followed := He.glo_ok X G (c.fact 7 (f := .glo "boxes_followed") rfl)
  obtain ⟨d_look_at_counts, F_look_at_counts⟩ := c.def_ 9 (d := Obh.dlook_at_counts) rfl
  have g_look_at_counts := He.glo_ok X G (c.fact 9 (f := .glo "look_at_counts") rfl)
  obtain ⟨d_product_of, F_product_of⟩ := c.def_ 10 (d := Obh.dproduct_of) rfl
  have g_product_of := He.glo_ok X G (c.fact 10 (f := .glo "product_of") rfl)
  obtain ⟨d_by_rings, F_by_rings⟩ := c.def_ 11 (d := Obh.dby_rings) rfl
  have g_by_rings := He.glo_ok X G (c.fact 11 (f := .glo "by_rings") rfl)
  obtain ⟨d_sets_row, F_sets_row⟩ := c.def_ 13 (d := Obh.dsets_row) rfl
  have g_sets_row := He.glo_ok X G (c.fact 13 (f := .glo "sets_row") rfl)
  obtain ⟨d_with_one_more, F_with_one_more⟩ := c.def_ 14 (d := Obh.dwith_one_more) rfl
  have g_with_one_more := He.glo_ok X G (c.fact 14 (f := .glo "with_one_more") rfl)
  obtain ⟨d_divisor_of, F_divisor_of⟩ := c.def_ 16 (d := Obh.ddivisor_of) rfl
  have g_divisor_of := He.glo_ok X G (c.fact 16 (f := .glo "divisor_of") rfl)
  obtain ⟨d_look_at_group, F_look_at_group⟩ := c.def_ 18 (d := Obh.dlook_at_group) rfl
  have g_look_at_group := He.glo_ok X G (c.fact 18 (f := .glo "look_at_group") rfl)
  obtain ⟨d_look_at_help, F_look_at_help⟩ := c.def_ 21 (d := Obh.dlook_at_help) rfl
  have g_look_at_help := He.glo_ok X G (c.fact 21 (f := .glo "look_at_help") rfl)
  obtain ⟨d_lines_of, F_lines_of⟩ := c.def_ 24 (d := Obh.dlines_of) rfl
  have g_lines_of := He.glo_ok X G (c.fact 24 (f := .glo "lines_of") rfl)
  obtain ⟨d_ring_text, F_ring_text⟩ := c.def_ 29 (d := Obh.dring_text) rfl
  have g_ring_text := He.glo_ok X G (c.fact 29 (f := .glo "ring_text") rfl)
  obtain ⟨d_number_in, F_number_in⟩ := c.def_ 31 (d := Obh.dnumber_in) rfl
  have g_number_in := He.glo_ok X G (c.fact 31 (f := .glo "number_in") rfl)
  obtain ⟨d_with_blanks, F_with_blanks⟩ := c.def_ 35 (d := Obh.dwith_blanks) rfl
  have g_with_blanks := He.glo_ok X G (c.fact 35 (f := .glo "with_blanks") rfl)
  obtain ⟨d__law_cell_at, F__law_cell_at⟩ := c.def_ 41 (d := Obh.d_law_cell_at) rfl
  have g__law_cell_at := He.glo_ok X G (c.fact 41 (f := .glo "_law_cell_at") rfl)
  obtain ⟨d__law_order, F__law_order⟩ := c.def_ 42 (d := Obh.d_law_order) rfl
  have g__law_order := He.glo_ok X G (c.fact 42 (f := .glo "_law_order") rfl)
  obtain ⟨d__law_all, F__law_all⟩ := c.def_ 43 (d := Obh.d_law_all) rfl
  have g__law_all := He.glo_ok X G (c.fact 43 (f := .glo "_law_all") rfl)
  obtain ⟨d__law_ways, F__law_ways⟩ := c.def_ 44 (d := Obh.d_law_ways) rfl
  have g__law_ways := He.glo_ok X G (c.fact 44 (f := .glo "_law_ways") rfl)
  obtain ⟨d__law_words, F__law_words⟩ := c.def_ 45 (d := Obh.d_law_words) rfl
  have g__law_words := He.glo_ok X G (c.fact 45 (f := .glo "_law_words") rfl)
  obtain ⟨d_rings_of, F_rings_of⟩ := c.def_ 2 (d := Obh.drings_of) rfl
  have g_rings_of := He.glo_ok X G (c.fact 2 (f := .glo "rings_of") rfl)
  obtain ⟨d_order_by, F_order_by⟩ := c.def_ 3 (d := Obh.dorder_by) rfl
  have g_order_by := He.glo_ok X G (c.fact 3 (f := .glo "order_by") rfl)
  obtain ⟨d_made_openings, F_made_openings⟩ := c.def_ 6 (d := Obh.dmade_openings) rfl
  have g_made_openings := He.glo_ok X G (c.fact 6 (f := .glo "made_openings") rfl)
  obtain ⟨d_finders, F_finders⟩ := c.def_ 8 (d := Obh.dfinders) rfl
  have g_finders := He.glo_ok X G (c.fact 8 (f := .glo "finders") rfl)
  obtain ⟨d_many_good, F_many_good⟩ := c.def_ 12 (d := Obh.dmany_good) rfl
  have g_many_good := He.glo_ok X G (c.fact 12 (f := .glo "many_good") rfl)
  obtain ⟨d_found_by_just, F_found_by_just⟩ := c.def_ 19 (d := Obh.dfound_by_just) rfl
  have g_found_by_just := He.glo_ok X G (c.fact 19 (f := .glo "found_by_just") rfl)
  obtain ⟨d_line_at, F_line_at⟩ := c.def_ 25 (d := Obh.dline_at) rfl
  have g_line_at := He.glo_ok X G (c.fact 25 (f := .glo "line_at") rfl)
  obtain ⟨d_line_number, F_line_number⟩ := c.def_ 26 (d := Obh.dline_number) rfl
  have g_line_number := He.glo_ok X G (c.fact 26 (f := .glo "line_number") rfl)
  obtain ⟨d_numbers_in, F_numbers_in⟩ := c.def_ 32 (d := Obh.dnumbers_in) rfl
  have g_numbers_in := He.glo_ok X G (c.fact 32 (f := .glo "numbers_in") rfl)
  obtain ⟨d_many_all, F_many_all⟩ := c.def_ 15 (d := Obh.dmany_all) rfl
  have g_many_all := He.glo_ok X G (c.fact 15 (f := .glo "many_all") rfl)
  obtain ⟨d_many_all_of, F_many_all_of⟩ := c.def_ 20 (d := Obh.dmany_all_of) rfl
  have g_many_all_of := He.glo_ok X G (c.fact 20 (f := .glo "many_all_of") rfl)
  obtain ⟨d_need, F_need⟩ := c.def_ 22 (d := Obh.dneed) rfl
  have g_need := He.glo_ok X G (c.fact 22 (f := .glo "need") rfl)
  obtain ⟨d_exchanges, F_exchanges⟩ := c.def_ 23 (d := Obh.dexchanges) rfl
  have g_exchanges := He.glo_ok X G (c.fact 23 (f := .glo "exchanges") rfl)
  obtain ⟨d_good_at, F_good_at⟩ := c.def_ 27 (d := Obh.dgood_at) rfl
  have g_good_at := He.glo_ok X G (c.fact 27 (f := .glo "good_at") rfl)
  obtain ⟨d_good_number, F_good_number⟩ := c.def_ 28 (d := Obh.dgood_number) rfl
  have g_good_number := He.glo_ok X G (c.fact 28 (f := .glo "good_number") rfl)
  obtain ⟨d_order_text, F_order_text⟩ := c.def_ 30 (d := Obh.dorder_text) rfl
  have g_order_text := He.glo_ok X G (c.fact 30 (f := .glo "order_text") rfl)
  obtain ⟨d_rings_in, F_rings_in⟩ := c.def_ 33 (d := Obh.drings_in) rfl
  have g_rings_in := He.glo_ok X G (c.fact 33 (f := .glo "rings_in") rfl)
  obtain ⟨d__law_helped, F__law_helped⟩ := c.def_ 46 (d := Obh.d_law_helped) rfl
  have g__law_helped := He.glo_ok X G (c.fact 46 (f := .glo "_law_helped") rfl)
  obtain ⟨d__law_need, F__law_need⟩ := c.def_ 47 (d := Obh.d_law_need) rfl
  have g__law_need := He.glo_ok X G (c.fact 47 (f := .glo "_law_need") rfl)
  obtain ⟨d_share, F_share⟩ := c.def_ 17 (d := Obh.dshare) rfl
  have g_share := He.glo_ok X G (c.fact 17 (f := .glo "share") rfl)
  obtain ⟨d_read_order, F_read_order⟩ := c.def_ 34 (d := Obh.dread_order) rfl
  have g_read_order := He.glo_ok X G (c.fact 34 (f := .glo "read_order") rfl)
  obtain ⟨d_answer_by_order, F_answer_by_order⟩ := c.def_ 36 (d := Obh.danswer_by_order) rfl
  have g_answer_by_order := He.glo_ok X G (c.fact 36 (f := .glo "answer_by_order") rfl)
  obtain ⟨d_answer_by_numbers, F_answer_by_numbers⟩ := c.def_ 37 (d := Obh.danswer_by_numbers) rfl
  have g_answer_by_numbers := He.glo_ok X G (c.fact 37 (f := .glo "answer_by_numbers") rfl)
  obtain ⟨d__law_right, F__law_right⟩ := c.def_ 48 (d := Obh.d_law_right) rfl
  have g__law_right := He.glo_ok X G (c.fact 48 (f := .glo "_law_right") rfl)
  obtain ⟨d_answer_of, F_answer_of⟩ := c.def_ 38 (d := Obh.danswer_of) rfl
  have g_answer_of := He.glo_ok X G (c.fact 38 (f := .glo "answer_of") rfl)
  obtain ⟨d_answered_row, F_answered_row⟩ := c.def_ 39 (d := Obh.danswered_row) rfl
  have g_answered_row := He.glo_ok X G (c.fact 39 (f := .glo "answered_row") rfl)
  obtain ⟨d_answered, F_answered⟩ := c.def_ 40 (d := Obh.danswered) rfl
  have g_answered := He.glo_ok X G (c.fact 40 (f := .glo "answered") rfl)
  obtain ⟨d_law, F_law⟩ := c.def_ 49 (d := Obh.dlaw) rfl
  have e := hfa.symm.trans (He.glo_ok X G (c.fact 49 (f := .glo "law") rfl))
  cases e
  have bl := FunD.bindsA (ps := ["script"]) F_law fun _ _ _ _ _ _ us hl => match us, hl with | [_], _ => rfl
  refine ⟨d_law, fun s v => bl s [v] rfl, fun base _ _ => ?_⟩
  have D_is_each_once : Dc P w K mg base "is_each_once" ["numbers"] 1 sp_is_each_once := ⟨_, d_is_each_once, ok_is_each_once F_is_each_once c_MOST_BOXES b_len b_list b_range b_sorted, g_is_each_once, F_is_each_once.kp, F_is_each_once.bindsN fun _ _ _ _ _ _ us hl => match us, hl with | [_], _ => rfl⟩
  have D_ring_from : Dc P w K mg base "ring_from" ["order", "box"] 1 sp_ring_from := ⟨_, d_ring_from, ok_ring_from F_ring_from b_tuple, g_ring_from, F_ring_from.kp, F_ring_from.bindsN fun _ _ _ _ _ _ us hl => match us, hl with | [_, _], _ => rfl⟩
  have D_exchanged : Dc P w K mg base "exchanged" ["order", "one", "other"] 1 sp_exchanged := ⟨_, d_exchanged, ok_exchanged F_exchanged b_len b_list b_max b_min b_tuple, g_exchanged, F_exchanged.kp, F_exchanged.bindsN fun _ _ _ _ _ _ us hl => match us, hl with | [_, _, _], _ => rfl⟩
  have D_look_at_openings : Dc P w K mg base "look_at_openings" ["people", "numbers"] 1 sp_look_at_openings := ⟨_, d_look_at_openings, ok_look_at_openings F_look_at_openings c_MOST_BOXES b_len b_max b_min, g_look_at_openings, F_look_at_openings.kp, F_look_at_openings.bindsN fun _ _ _ _ _ _ us hl => match us, hl with | [_, _], _ => rfl⟩
  have D_boxes_followed : Dc P w K mg base "boxes_followed" ["order", "many", "person"] 1 sp_boxes_followed := ⟨_, d_boxes_followed, ok_boxes_followed F_boxes_followed b_len, g_boxes_followed, F_boxes_followed.kp, F_boxes_followed.bindsN fun _ _ _ _ _ _ us hl => match us, hl with | [_, _, _], _ => rfl⟩
  have D_look_at_counts : Dc P w K mg base "look_at_counts" ["people", "k"] 1 sp_look_at_counts := ⟨_, d_look_at_counts, ok_look_at_counts F_look_at_counts c_MOST_PEOPLE_counting, g_look_at_counts, F_look_at_counts.kp, F_look_at_counts.bindsN fun _ _ _ _ _ _ us hl => match us, hl with | [_, _], _ => rfl⟩
  have D_product_of : Dc P w K mg base "product_of" ["many"] 1 sp_product_of := ⟨_, d_product_of, ok_product_of F_product_of b_range, g_product_of, F_product_of.kp, F_product_of.bindsN fun _ _ _ _ _ _ us hl => match us, hl with | [_], _ => rfl⟩
  have D_by_rings : Dc P w K mg base "by_rings" ["people", "least", "most"] 1 sp_by_rings := ⟨_, d_by_rings, ok_by_rings F_by_rings b_range, g_by_rings, F_by_rings.kp, F_by_rings.bindsN fun _ _ _ _ _ _ us hl => match us, hl with | [_, _, _], _ => rfl⟩
  have D_sets_row : Dc P w K mg base "sets_row" ["people"] 1 sp_sets_row := ⟨_, d_sets_row, ok_sets_row F_sets_row b_range, g_sets_row, F_sets_row.kp, F_sets_row.bindsN fun _ _ _ _ _ _ us hl => match us, hl with | [_], _ => rfl⟩
  have D_with_one_more : Dc P w K mg base "with_one_more" ["begun", "left", "most"] 1 sp_with_one_more := ⟨_, d_with_one_more, ok_with_one_more F_with_one_more b_enumerate b_min b_range, g_with_one_more, F_with_one_more.kp, F_with_one_more.bindsN fun _ _ _ _ _ _ us hl => match us, hl with | [_, _, _], _ => rfl⟩
  have D_divisor_of : Dc P w K mg base "divisor_of" ["one", "other"] 1 sp_divisor_of := ⟨_, d_divisor_of, ok_divisor_of F_divisor_of , g_divisor_of, F_divisor_of.kp, F_divisor_of.bindsN fun _ _ _ _ _ _ us hl => match us, hl with | [_, _], _ => rfl⟩
  have D_look_at_group : Dc P w K mg base "look_at_group" ["people", "group"] 1 sp_look_at_group := ⟨_, d_look_at_group, ok_look_at_group F_look_at_group , g_look_at_group, F_look_at_group.kp, F_look_at_group.bindsN fun _ _ _ _ _ _ us hl => match us, hl with | [_, _], _ => rfl⟩
  have D_look_at_help : Dc P w K mg base "look_at_help" ["order", "k"] 1 sp_look_at_help := ⟨_, d_look_at_help, ok_look_at_help F_look_at_help b_len, g_look_at_help, F_look_at_help.kp, F_look_at_help.bindsN fun _ _ _ _ _ _ us hl => match us, hl with | [_, _], _ => rfl⟩
  have D_lines_of : Dc P w K mg base "lines_of" ["many", "some"] 1 sp_lines_of := ⟨_, d_lines_of, ok_lines_of F_lines_of b_range, g_lines_of, F_lines_of.kp, F_lines_of.bindsN fun _ _ _ _ _ _ us hl => match us, hl with | [_, _], _ => rfl⟩
  have D_ring_text : Dc P w K mg base "ring_text" ["ring"] 1 sp_ring_text := ⟨_, d_ring_text, ok_ring_text F_ring_text b_str, g_ring_text, F_ring_text.kp, F_ring_text.bindsN fun _ _ _ _ _ _ us hl => match us, hl with | [_], _ => rfl⟩
  have D_number_in : Dc P w K mg base "number_in" ["word"] 1 sp_number_in := ⟨_, d_number_in, ok_number_in F_number_in c_FIGURES c_MOST_FIGURES b_int b_len, g_number_in, F_number_in.kp, F_number_in.bindsN fun _ _ _ _ _ _ us hl => match us, hl with | [_], _ => rfl⟩
  have D_with_blanks : Dc P w K mg base "with_blanks" ["some", "nothing"] 1 sp_with_blanks := ⟨_, d_with_blanks, ok_with_blanks F_with_blanks b_len b_str, g_with_blanks, F_with_blanks.kp, F_with_blanks.bindsN fun _ _ _ _ _ _ us hl => match us, hl with | [_, _], _ => rfl⟩
  have D__law_cell_at : Dc P w K mg base "_law_cell_at" ["script", "k"] 1 (sp__law_cell_at K) := ⟨_, d__law_cell_at, ok__law_cell_at F__law_cell_at b_len, g__law_cell_at, F__law_cell_at.kp, F__law_cell_at.bindsN fun _ _ _ _ _ _ us hl => match us, hl with | [_, _], _ => rfl⟩
  have D__law_order : Dc P w K mg base "_law_order" ["cell", "many"] 1 sp__law_order := ⟨_, d__law_order, ok__law_order F__law_order b_range b_tuple, g__law_order, F__law_order.kp, F__law_order.bindsN fun _ _ _ _ _ _ us hl => match us, hl with | [_, _], _ => rfl⟩
  have D__law_all : Dc P w K mg base "_law_all" ["script"] 1 (sp__law_all K) := ⟨_, d__law_all, ok__law_all F__law_all , g__law_all, F__law_all.kp, F__law_all.bindsN fun _ _ _ _ _ _ us hl => match us, hl with | [_], _ => rfl⟩
  have D__law_ways : Dc P w K mg base "_law_ways" ["many"] 1 sp__law_ways := ⟨_, d__law_ways, ok__law_ways F__law_ways b_range, g__law_ways, F__law_ways.kp, F__law_ways.bindsN fun _ _ _ _ _ _ us hl => match us, hl with | [_], _ => rfl⟩
  have D__law_words : Dc P w K mg base "_law_words" ["numbers"] 1 sp__law_words := ⟨_, d__law_words, ok__law_words F__law_words b_str, g__law_words, F__law_words.kp, F__law_words.bindsN fun _ _ _ _ _ _ us hl => match us, hl with | [_], _ => rfl⟩
  have D_rings_of : Dc P w K mg base "rings_of" ["order"] 2 sp_rings_of := ⟨_, d_rings_of, ok_rings_of F_rings_of D_ring_from b_len b_range, g_rings_of, F_rings_of.kp, F_rings_of.bindsN fun _ _ _ _ _ _ us hl => match us, hl with | [_], _ => rfl⟩
  have D_order_by : Dc P w K mg base "order_by" ["rings"] 2 sp_order_by := ⟨_, d_order_by, ok_order_by F_order_by D_is_each_once b_len b_range b_tuple, g_order_by, F_order_by.kp, F_order_by.bindsN fun _ _ _ _ _ _ us hl => match us, hl with | [_], _ => rfl⟩
  have D_made_openings : Dc P w K mg base "made_openings" ["people", "numbers"] 2 sp_made_openings := ⟨_, d_made_openings, ok_made_openings F_made_openings D_look_at_openings b_tuple, g_made_openings, F_made_openings.kp, F_made_openings.bindsN fun _ _ _ _ _ _ us hl => match us, hl with | [_, _], _ => rfl⟩
  have D_finders : Dc P w K mg base "finders" ["order", "openings"] 2 sp_finders := ⟨_, d_finders, ok_finders F_finders D_boxes_followed D_look_at_openings b_len b_range b_tuple, g_finders, F_finders.kp, F_finders.bindsN fun _ _ _ _ _ _ us hl => match us, hl with | [_, _], _ => rfl⟩
  have D_many_good : Dc P w K mg base "many_good" ["people", "k"] 2 sp_many_good := ⟨_, d_many_good, ok_many_good F_many_good D_by_rings D_look_at_counts, g_many_good, F_many_good.kp, F_many_good.bindsN fun _ _ _ _ _ _ us hl => match us, hl with | [_, _], _ => rfl⟩
  have D_found_by_just : Dc P w K mg base "found_by_just" ["people", "k"] 2 sp_found_by_just := ⟨_, d_found_by_just, ok_found_by_just F_found_by_just D_by_rings b_range, g_found_by_just, F_found_by_just.kp, F_found_by_just.bindsN fun _ _ _ _ _ _ us hl => match us, hl with | [_, _], _ => rfl⟩
  have D_line_at : Dc P w K mg base "line_at" ["left", "some", "number"] 2 sp_line_at := ⟨_, d_line_at, ok_line_at F_line_at D_lines_of b_len b_list, g_line_at, F_line_at.kp, F_line_at.bindsN fun _ _ _ _ _ _ us hl => match us, hl with | [_, _, _], _ => rfl⟩
  have D_line_number : Dc P w K mg base "line_number" ["left", "line"] 2 sp_line_number := ⟨_, d_line_number, ok_line_number F_line_number D_lines_of b_enumerate b_len b_list, g_line_number, F_line_number.kp, F_line_number.bindsN fun _ _ _ _ _ _ us hl => match us, hl with | [_, _], _ => rfl⟩
  have D_numbers_in : Dc P w K mg base "numbers_in" ["text"] 2 sp_numbers_in := ⟨_, d_numbers_in, ok_numbers_in F_numbers_in D_number_in, g_numbers_in, F_numbers_in.kp, F_numbers_in.bindsN fun _ _ _ _ _ _ us hl => match us, hl with | [_], _ => rfl⟩
  have D_many_all : Dc P w K mg base "many_all" ["openings"] 3 sp_many_all := ⟨_, d_many_all, ok_many_all F_many_all D_made_openings D_with_one_more c_MOST_PEOPLE_counting b_enumerate b_len b_sorted, g_many_all, F_many_all.kp, F_many_all.bindsN fun _ _ _ _ _ _ us hl => match us, hl with | [_], _ => rfl⟩
  have D_many_all_of : Dc P w K mg base "many_all_of" ["people", "k", "group"] 3 sp_many_all_of := ⟨_, d_many_all_of, ok_many_all_of F_many_all_of D_found_by_just D_look_at_counts D_look_at_group D_sets_row b_len b_range b_sum, g_many_all_of, F_many_all_of.kp, F_many_all_of.bindsN fun _ _ _ _ _ _ us hl => match us, hl with | [_, _, _], _ => rfl⟩
  have D_need : Dc P w K mg base "need" ["order", "k"] 3 sp_need := ⟨_, d_need, ok_need F_need D_look_at_help D_rings_of b_len b_sum, g_need, F_need.kp, F_need.bindsN fun _ _ _ _ _ _ us hl => match us, hl with | [_, _], _ => rfl⟩
  have D_exchanges : Dc P w K mg base "exchanges" ["order", "k"] 3 sp_exchanges := ⟨_, d_exchanges, ok_exchanges F_exchanges D_look_at_help D_rings_of b_len b_max b_min b_range, g_exchanges, F_exchanges.kp, F_exchanges.bindsN fun _ _ _ _ _ _ us hl => match us, hl with | [_, _], _ => rfl⟩
  have D_good_at : Dc P w K mg base "good_at" ["people", "k", "number"] 3 sp_good_at := ⟨_, d_good_at, ok_good_at F_good_at D_by_rings D_line_at D_lines_of D_look_at_counts D_order_by b_len b_list b_range b_tuple, g_good_at, F_good_at.kp, F_good_at.bindsN fun _ _ _ _ _ _ us hl => match us, hl with | [_, _, _], _ => rfl⟩
  have D_good_number : Dc P w K mg base "good_number" ["order", "k"] 3 sp_good_number := ⟨_, d_good_number, ok_good_number F_good_number D_by_rings D_line_number D_lines_of D_look_at_counts D_rings_of b_len b_list b_max b_range, g_good_number, F_good_number.kp, F_good_number.bindsN fun _ _ _ _ _ _ us hl => match us, hl with | [_, _], _ => rfl⟩
  have D_order_text : Dc P w K mg base "order_text" ["order"] 3 sp_order_text := ⟨_, d_order_text, ok_order_text F_order_text D_ring_text D_rings_of, g_order_text, F_order_text.kp, F_order_text.bindsN fun _ _ _ _ _ _ us hl => match us, hl with | [_], _ => rfl⟩
  have D_rings_in : Dc P w K mg base "rings_in" ["text"] 3 sp_rings_in := ⟨_, d_rings_in, ok_rings_in F_rings_in D_numbers_in, g_rings_in, F_rings_in.kp, F_rings_in.bindsN fun _ _ _ _ _ _ us hl => match us, hl with | [_], _ => rfl⟩
  have D__law_helped : Dc P w K mg base "_law_helped" ["order", "k", "told"] 3 sp__law_helped := ⟨_, d__law_helped, ok__law_helped F__law_helped D_exchanged D_rings_of b_int b_len b_max, g__law_helped, F__law_helped.kp, F__law_helped.bindsN fun _ _ _ _ _ _ us hl => match us, hl with | [_, _, _], _ => rfl⟩
  have D__law_need : Dc P w K mg base "_law_need" ["order", "k"] 3 sp__law_need := ⟨_, d__law_need, ok__law_need F__law_need D_rings_of b_len b_sum, g__law_need, F__law_need.kp, F__law_need.bindsN fun _ _ _ _ _ _ us hl => match us, hl with | [_, _], _ => rfl⟩
  have D_share : Dc P w K mg base "share" ["openings"] 4 sp_share := ⟨_, d_share, ok_share F_share D_divisor_of D_many_all D_product_of b_len, g_share, F_share.kp, F_share.bindsN fun _ _ _ _ _ _ us hl => match us, hl with | [_], _ => rfl⟩
  have D_read_order : Dc P w K mg base "read_order" ["text"] 4 sp_read_order := ⟨_, d_read_order, ok_read_order F_read_order D_order_by D_order_text D_rings_in, g_read_order, F_read_order.kp, F_read_order.bindsN fun _ _ _ _ _ _ us hl => match us, hl with | [_], _ => rfl⟩
  have D_answer_by_order : Dc P w K mg base "answer_by_order" ["word", "numbers", "order"] 4 sp_answer_by_order := ⟨_, d_answer_by_order, ok_answer_by_order F_answer_by_order D_exchanges D_finders D_need D_rings_of D_with_blanks c_REFUSED b_len b_str b_tuple, g_answer_by_order, F_answer_by_order.kp, F_answer_by_order.bindsN fun _ _ _ _ _ _ us hl => match us, hl with | [_, _, _], _ => rfl⟩
  have D_answer_by_numbers : Dc P w K mg base "answer_by_numbers" ["word", "numbers"] 5 sp_answer_by_numbers := ⟨_, d_answer_by_numbers, ok_answer_by_numbers F_answer_by_numbers D_good_at D_many_all_of D_many_good D_order_text D_share c_MOST_PEOPLE_sheet c_REFUSED b_len b_range b_str b_tuple, g_answer_by_numbers, F_answer_by_numbers.kp, F_answer_by_numbers.bindsN fun _ _ _ _ _ _ us hl => match us, hl with | [_, _], _ => rfl⟩
  have D__law_right : Dc P w K mg base "_law_right" ["order", "openings", "k", "number", "told"] 5 sp__law_right := ⟨_, d__law_right, ok__law_right F__law_right D__law_helped D__law_need D__law_ways D__law_words D_exchanges D_finders D_good_number D_read_order D_rings_of b_int b_len b_max b_str, g__law_right, F__law_right.kp, F__law_right.bindsN fun _ _ _ _ _ _ us hl => match us, hl with | [_, _, _, _, _], _ => rfl⟩
  have D_answer_of : Dc P w K mg base "answer_of" ["row"] 6 sp_answer_of := ⟨_, d_answer_of, ok_answer_of F_answer_of D_answer_by_numbers D_answer_by_order D_number_in D_read_order c_REFUSED b_len, g_answer_of, F_answer_of.kp, F_answer_of.bindsN fun _ _ _ _ _ _ us hl => match us, hl with | [_], _ => rfl⟩
  have D_answered_row : Dc P w K mg base "answered_row" ["row"] 7 sp_answered_row := ⟨_, d_answered_row, ok_answered_row F_answered_row D_answer_of, g_answered_row, F_answered_row.kp, F_answered_row.bindsN fun _ _ _ _ _ _ us hl => match us, hl with | [_], _ => rfl⟩
  have D_answered : Dc P w K mg base "answered" ["sheet"] 8 sp_answered := ⟨_, d_answered, ok_answered F_answered D_answered_row, g_answered, F_answered.kp, F_answered.bindsN fun _ _ _ _ _ _ us hl => match us, hl with | [_], _ => rfl⟩
  exact ok_law F_law D__law_all D__law_cell_at D__law_order D__law_right D__law_words D_answered D_order_text b_int b_len b_max b_range b_str b_tuple
/-! ### a law's end, the script's bits told -/
theorem end_bits {l : PySem.W.OpenLaw} {n k : Nat} {q : Program} {loose : List Str} {XP : (Str → Option Value) → Heap → Prop} {YP : World → Heap → Prop} {d : DefRec} {x : Str}
    (hn : l.most = some n) (hn2 : n ≤ sizeLine) (hdf : d.params.defaults = []) (hr : Room k callerA)
    (F : ∀ (w : World) (mg : Str → Option Value) (fa : Addr) (h : Heap), YP w h → h.Ns mainGlobals mg → mg d.name = some (.ref fa) →
      ∃ (K : PySem.W.Frag) (fd : FuncData) (sp : Sp), K.In h ∧ (∀ (s : Shared) (u : Value), BindsTo s fd ⟨[u], []⟩ [(x, u)]) ∧
        (∀ (H : Hp) (a : Addr) (ns : List Int), ns.length ≤ n → (∀ z ∈ ns, Builtin.Int.intBits z ≤ 1048576) → SqL K H a (ns.map V.int) → sp [.ref a] H (fun v _ => v = .bl true) fun _ _ _ => False) ∧
        ∀ base : Heap, K.In base → base.Ns mainGlobals mg → FnOk l.prog w K mg base CX0 k fa fd [x] sp) :
    PySem.W.WalkO q loose XP YP l.row.toRowW d [] (fun f vs => PySem.call f vs) := by
  refine Att.attach_callB hn hdf fun w s₀ s₁ mg mb fa o pm cd doc a vs ns G Y ho hd hcd hmg hobj hints hlen hbits hg => ?_
  obtain ⟨K, fd, sp, KX, hb, hsp, hF⟩ := F w mg fa _ Y G.T.g hmg
  exact law_call KX G.T.g G.T.b G.T.builtins G.T.nolimit hg hobj hints (Nat.le_trans hlen hn2) hr hF hb (fun H _ hS => hsp H a ns hlen hbits hS) fun _ _ _ z => z
end Obw
open PySem PySem.W PySem.Calls PyProof.Rows
theorem PySem.Challenge.cw_ownboxes_k64_whole_from_text_to_answers_holds : PySem.Challenge.rw_ownboxes_k64_whole_from_text_to_answers.Holds := by
  w_on; o_law
  refine HandSHeadRun.head_any (r := OpenLaw.row PySem.Challenge.rw_ownboxes_k64_whole_from_text_to_answers) (q := view (OpenLaw.row PySem.Challenge.rw_ownboxes_k64_whole_from_text_to_answers).prog [76]) (H := Obh.hk) (ob := Obh.ob) (M := 4000) (loose := Obh.loose) (d := HandSHeadRun.topDef (OpenLaw.row PySem.Challenge.rw_ownboxes_k64_whole_from_text_to_answers).prog 76) (kwd := []) Obh.ob_eq
    (by kernel_rfl) (fun s => by kernel_rfl) Obh.run (by kernel_rfl) (by kernel_rfl) (by kernel_rfl) (by rfl) (by first | assumption | decide +kernel) (by decide +kernel) ⟨rfl, rfl, rfl, rfl, rfl, by decide +kernel⟩ ?hw ?hc
  case hw => w_witness2
  case hc =>
    refine Obw.end_bits (l := PySem.Challenge.rw_ownboxes_k64_whole_from_text_to_answers) (n := 63) (k := 9) (x := "script") rfl (by decide) (by kernel_rfl) ⟨rfl, by decide, by decide⟩ ?F
    intro w mg fa h Y G hmg0
    obtain ⟨K, KX, c⟩ := Y
    have hmg : mg ("law" : PySem.Str) = some (.ref fa) := by
      have e : (HandSHeadRun.topDef (OpenLaw.row PySem.Challenge.rw_ownboxes_k64_whole_from_text_to_answers).prog 76).name = ("law" : PySem.Str) := by kernel_rfl
      rw [← e]
      exact hmg0
    obtain ⟨fd, hb, hF⟩ := Obw.facts (P := (PySem.Challenge.rw_ownboxes_k64_whole_from_text_to_answers).prog) (w := w) KX G hmg c
    exact ⟨K, fd, Obw.sp_law K, KX, hb, fun H a ns hl hbt hS => ⟨a, ns, rfl, hS, hl, hbt, fun _ _ => rfl⟩, hF⟩
