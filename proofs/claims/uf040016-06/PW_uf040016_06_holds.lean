import PyProof.Rows.All
import Wide.All
import OpenK.AllK
import Wide.FinOn
import PySem.Challenge.RW_uf040016_06
namespace Mine

section
variable {α : Type} (key : α → Int)

noncomputable def Srt (l : List α) : Prop := l.Pairwise fun x y => key x ≤ key y

variable {key}

theorem srt_app {l m : List α} : Srt key (l ++ m) ↔ Srt key l ∧ Srt key m ∧ ∀ x ∈ l, ∀ y ∈ m, key x ≤ key y := List.pairwise_append

theorem Srt.drop {l : List α} (h : Srt key l) (n : Nat) : Srt key (l.drop n) := List.Pairwise.sublist (List.drop_sublist n l) h
theorem Srt.take {l : List α} (h : Srt key l) (n : Nat) : Srt key (l.take n) := List.Pairwise.sublist (List.take_sublist n l) h

/-- a sorted list: what stands at or behind a place is no less. -/
theorem Srt.le_drop {l : List α} (h : Srt key l) {i : Nat} (hi : i < l.length) {y : α} (hy : y ∈ l.drop i) : key l[i] ≤ key y := by
  rw [List.drop_eq_getElem_cons hi] at hy
  rcases List.mem_cons.mp hy with rfl | hy
  · exact Int.le_refl _
  · have h2 := h.drop i
    rw [List.drop_eq_getElem_cons hi] at h2
    exact (List.pairwise_cons.mp h2).1 y hy

theorem Srt.take_le {l : List α} (h : Srt key l) {i : Nat} (hi : i < l.length) {y : α} (hy : y ∈ l.take (i + 1)) : key y ≤ key l[i] := by
  rw [List.take_succ_eq_append_getElem hi] at hy
  rcases List.mem_append.mp hy with hy | hy
  · have h2 := h.take (i + 1)
    rw [List.take_succ_eq_append_getElem hi] at h2
    exact (srt_app.mp h2).2.2 y hy _ (List.mem_singleton.mpr rfl)
  · rw [List.mem_singleton.mp hy]; exact Int.le_refl _

variable (key)
/-- merging from below: what is out, what is left of either. -/
structure MLo (a b out : List α) (ia ib : Nat) : Prop where
  perm : out.Perm (a.take ia ++ b.take ib)
  sa : Srt key (out ++ a.drop ia)
  sb : Srt key (out ++ b.drop ib)
variable {key}

theorem take_add' (l : List α) (i k : Nat) : l.take (i + k) = l.take i ++ (l.drop i).take k := by
  rw [List.take_add]

theorem MLo.stepA {a b out : List α} {ia ib k : Nat} (h : MLo key a b out ia ib)
    (hle : ∀ x ∈ (a.drop ia).take k, ∀ y ∈ b.drop ib, key x ≤ key y) : MLo key a b (out ++ (a.drop ia).take k) (ia + k) ib := by
  have e : out ++ (a.drop ia).take k ++ a.drop (ia + k) = out ++ a.drop ia := by
    rw [List.append_assoc, show a.drop (ia + k) = (a.drop ia).drop k by rw [List.drop_drop], List.take_append_drop]
  refine ⟨?_, ?_, ?_⟩
  · rw [take_add']
    refine (h.perm.append_right _).trans ?_
    rw [List.append_assoc, List.append_assoc]
    exact List.Perm.append_left _ List.perm_append_comm
  · rw [e]; exact h.sa
  · rw [List.append_assoc]
    obtain ⟨s1, s2, s3⟩ := srt_app.mp h.sb
    have t := h.sa
    rw [← e, List.append_assoc] at t
    obtain ⟨t1, t2, t3⟩ := srt_app.mp t
    obtain ⟨u1, u2, u3⟩ := srt_app.mp t2
    refine srt_app.mpr ⟨s1, srt_app.mpr ⟨u1, s2, hle⟩, fun x hx y hy => ?_⟩
    rcases List.mem_append.mp hy with hy | hy
    · exact t3 x hx y (List.mem_append_left _ hy)
    · exact s3 x hx y hy

theorem MLo.swap {a b out : List α} {ia ib : Nat} (h : MLo key a b out ia ib) : MLo key b a out ib ia :=
  ⟨h.perm.trans List.perm_append_comm, h.sb, h.sa⟩

theorem MLo.stepB {a b out : List α} {ia ib k : Nat} (h : MLo key a b out ia ib)
    (hle : ∀ x ∈ (b.drop ib).take k, ∀ y ∈ a.drop ia, key x ≤ key y) : MLo key a b (out ++ (b.drop ib).take k) ia (ib + k) :=
  (h.swap.stepA hle).swap

variable (key)
structure Merged (a b out : List α) : Prop where
  perm : out.Perm (a ++ b)
  srt : Srt key out
variable {key}

theorem MLo.done {a b out : List α} {ia ib : Nat} (h : MLo key a b out ia ib) (hb : ib = b.length) : Merged key a b (out ++ a.drop ia ++ b.drop ib) := by
  subst hb
  rw [List.drop_length, List.append_nil]
  refine ⟨?_, h.sa⟩
  have := h.perm
  rw [List.take_length] at this
  refine (this.append_right _).trans ?_
  rw [List.append_assoc]
  refine (List.Perm.append_left _ List.perm_append_comm).trans ?_
  rw [← List.append_assoc, List.take_append_drop]

theorem MLo.doneA {a b out : List α} {ia ib : Nat} (h : MLo key a b out ia ib) (ha : ia = a.length) : Merged key a b (out ++ a.drop ia ++ b.drop ib) := by
  have e : out ++ a.drop ia ++ b.drop ib = out ++ b.drop ib ++ a.drop ia := by
    rw [ha, List.drop_length, List.append_nil, List.append_nil]
  rw [e]
  exact ⟨(h.swap.done ha).perm.trans List.perm_append_comm, (h.swap.done ha).srt⟩

theorem MLo.lastOfA {a b out : List α} {ia ib : Nat} (h : MLo key a b out ia ib)
    (hlast : ∀ x ∈ b, ∀ y ∈ a.drop ia, key x ≤ key y) : Merged key a b (out ++ b.drop ib ++ a.drop ia) := by
  refine ⟨?_, ?_⟩
  · refine ((h.perm.append_right _).append_right _).trans ?_
    rw [List.append_assoc (a.take ia), List.take_append_drop, List.append_assoc]
    refine (List.Perm.append_left _ List.perm_append_comm).trans ?_
    rw [← List.append_assoc, List.take_append_drop]
  · obtain ⟨s1, s2, s3⟩ := srt_app.mp h.sa
    refine srt_app.mpr ⟨h.sb, s2, fun x hx y hy => ?_⟩
    rcases List.mem_append.mp hx with hx | hx
    · exact s3 x hx y hy
    · exact hlast x (List.mem_of_mem_drop hx) y hy

variable (key)
/-- merging from above: `r` is the merged end. -/
structure MHi (a b r : List α) (na nb : Nat) : Prop where
  perm : r.Perm (a.drop na ++ b.drop nb)
  sa : Srt key (a.take na ++ r)
  sb : Srt key (b.take nb ++ r)
variable {key}

theorem MHi.swap {a b out : List α} {ia ib : Nat} (h : MHi key a b out ia ib) : MHi key b a out ib ia :=
  ⟨h.perm.trans List.perm_append_comm, h.sb, h.sa⟩

theorem take_le_split (l : List α) {m n : Nat} (h : m ≤ n) : l.take n = l.take m ++ (l.take n).drop m := by
  conv => lhs; rw [← List.take_append_drop m (l.take n)]
  rw [List.take_take, Nat.min_eq_left h]

theorem drop_le_split (l : List α) {m n : Nat} (h : m ≤ n) : l.drop m = (l.take n).drop m ++ l.drop n := by
  have e := List.take_append_drop (n - m) (l.drop m)
  rw [List.drop_drop, show m + (n - m) = n by omega] at e
  rw [← e]; congr 1
  rw [List.drop_take]

theorem MHi.stepA {a b r : List α} {na nb m : Nat} (h : MHi key a b r na nb) (hm : m ≤ na)
    (hle : ∀ x ∈ (a.take na).drop m, ∀ y ∈ b.take nb, key y ≤ key x) : MHi key a b ((a.take na).drop m ++ r) m nb := by
  have e : a.take m ++ ((a.take na).drop m ++ r) = a.take na ++ r := by
    rw [← List.append_assoc, ← take_le_split a hm]
  refine ⟨?_, ?_, ?_⟩
  · rw [drop_le_split a hm, List.append_assoc]
    exact List.Perm.append_left _ h.perm
  · rw [e]; exact h.sa
  · obtain ⟨s1, s2, s3⟩ := srt_app.mp h.sb
    have t := h.sa
    rw [← e] at t
    obtain ⟨t1, t2, t3⟩ := srt_app.mp t
    refine srt_app.mpr ⟨s1, t2, fun x hx y hy => ?_⟩
    rcases List.mem_append.mp hy with hy | hy
    · exact hle y hy x hx
    · exact s3 x hx y hy

theorem MHi.done {a b r : List α} {na nb : Nat} (h : MHi key a b r na nb) (hz : na = 0) : Merged key a b (a.take na ++ b.take nb ++ r) := by
  subst hz
  rw [List.take_zero, List.nil_append]
  refine ⟨?_, h.sb⟩
  have := h.perm
  rw [List.drop_zero] at this
  refine (List.Perm.append_left _ this).trans ?_
  refine (List.perm_append_comm).trans ?_
  rw [List.append_assoc]
  refine List.Perm.append_left _ ?_
  refine List.perm_append_comm.trans ?_
  rw [List.take_append_drop]

theorem MHi.doneB {a b r : List α} {na nb : Nat} (h : MHi key a b r na nb) (hz : nb = 0) : Merged key a b (a.take na ++ b.take nb ++ r) := by
  have e : a.take na ++ b.take nb ++ r = b.take nb ++ a.take na ++ r := by
    rw [hz, List.take_zero, List.append_nil, List.nil_append]
  rw [e]
  exact ⟨(h.swap.done hz).perm.trans List.perm_append_comm, (h.swap.done hz).srt⟩

theorem MHi.firstOfB {a b r : List α} {na nb : Nat} (h : MHi key a b r na nb)
    (hfirst : ∀ x ∈ b.take nb, ∀ y ∈ a, key x ≤ key y) : Merged key a b (b.take nb ++ a.take na ++ r) := by
  refine ⟨?_, ?_⟩
  · refine (List.Perm.append_left _ h.perm).trans ?_
    refine List.perm_append_comm.trans ?_
    have e1 : (b.take nb ++ a.take na).Perm (a.take na ++ b.take nb) := List.perm_append_comm
    refine (List.Perm.append_left _ e1).trans ?_
    rw [List.append_assoc, ← List.append_assoc (b.drop nb)]
    refine (List.Perm.append_left _ (List.Perm.append_right _ List.perm_append_comm)).trans ?_
    rw [← List.append_assoc, ← List.append_assoc]
    refine (List.Perm.append_right _ (List.Perm.append_right _ List.perm_append_comm)).trans ?_
    rw [List.take_append_drop, List.append_assoc]
    refine List.Perm.append_left _ ?_
    refine List.perm_append_comm.trans ?_
    rw [List.take_append_drop]
  · rw [List.append_assoc]
    obtain ⟨s1, s2, s3⟩ := srt_app.mp h.sb
    refine srt_app.mpr ⟨s1, h.sa, fun x hx y hy => ?_⟩
    rcases List.mem_append.mp hy with hy | hy
    · exact hfirst x hx y (List.mem_of_mem_take hy)
    · exact s3 x hx y hy

end
end Mine

namespace Mine
open PySem PyProof PyProof.Rows

noncomputable def ky (p : Keyed) : Int := numOf p.1
noncomputable def IsInt (p : Keyed) : Prop := ∃ n t, p.1 = .int n t

noncomputable def gallop' : Bool → Keyed → Array Keyed → Nat → Nat → Nat → StateT SortSt Sem (Option Nat) := sortPriv% PySem.Builtin.gallop

noncomputable def beyond' (left : Bool) (key : Keyed) (arr : Array Keyed) (base i : Nat) : StateT SortSt Sem (Option Bool) := do
    let x ← elem' arr (base + i)
    if left then lt' x key else return (← lt' key x).map (!·)

noncomputable def bis' (left : Bool) (key : Keyed) (arr : Array Keyed) (base n lo hi : Nat) : StateT SortSt Sem (Option Nat) := do
  let mut lo := lo
  let mut hi := hi
  for _ in [0:n] do
    if lo ≥ hi then break
    let m := lo + (hi - lo) / 2
    let some more ← beyond' left key arr base m | return none
    if more then lo := m + 1 else hi := m
  return some hi
theorem gallop'_eq (left : Bool) (key : Keyed) (arr : Array Keyed) (base n hint : Nat) : gallop' left key arr base n hint = (do
  let some right ← beyond' left key arr base hint | return none
  if right then
    let mut lastofs := 0
    let mut ofs := 1
    for _ in [0:n] do
      if ofs ≥ n - hint then break
      let some more ← beyond' left key arr base (hint + ofs) | return none
      if !more then break
      lastofs := ofs
      ofs := 2 * ofs + 1
    bis' left key arr base n (hint + lastofs + 1) (hint + min ofs (n - hint))
  else
    let mut lastofs := 0
    let mut ofs := 1
    for _ in [0:n] do
      if ofs ≥ hint + 1 then break
      let some found ← beyond' left key arr base (hint - ofs) | return none
      if found then break
      lastofs := ofs
      ofs := 2 * ofs + 1
    bis' left key arr base n (hint + 1 - min ofs (hint + 1)) (hint - lastofs)) := rfl

section
variable {prog : Program} {w : World} {A : Around} {E : Value → Shared → Prop} {s : Shared}

theorem wpS_lt {st : SortSt} {x y : Keyed} {Q : Option Bool → SortSt → Prop} (hk : kindOf st = oneType') (hx : IsInt x) (hy : IsInt y)
    (h : Q (some (decide (ky x < ky y))) st) : wpS (model prog w) A E s (lt' x y) Q st := by
  obtain ⟨n, t, hx⟩ := hx
  obtain ⟨m, u, hy⟩ := hy
  rw [lt'_eq]
  refine wpS_bind (wpS_get ?_)
  rw [hk, keyLt'_oneType, hx, hy]
  refine wpS_bind (wpS_lift (wpAny_attempt (oneLt_int ⟨rfl, ?_⟩)))
  refine wpS_pure ?_
  unfold ky at h
  rw [hx, hy] at h
  exact h

theorem wpS_elem {st : SortSt} {arr : Array Keyed} {i : Nat} {x : Keyed} {Q : Keyed → SortSt → Prop} (hi : arr[i]? = some x) (h : Q x st) :
    wpS (model prog w) A E s (elem' arr i) Q st := by
  rw [elem'_eq, hi]; exact wpS_pure h

noncomputable def Bey (left : Bool) (k : Keyed) (arr : Array Keyed) (base i : Nat) : Prop := if left then K arr (base + i) < ky k else K arr (base + i) ≤ ky k

theorem wpS_beyond {st : SortSt} {left : Bool} {k x : Keyed} {arr : Array Keyed} {base i : Nat} {Q : Option Bool → SortSt → Prop} (hk : kindOf st = oneType')
    (hkey : IsInt k) (hi : arr[base + i]? = some x) (hx : IsInt x) (h1 : Bey left k arr base i → Q (some true) st) (h2 : ¬ Bey left k arr base i → Q (some false) st) :
    wpS (model prog w) A E s (beyond' left k arr base i) Q st := by
  have eK : K arr (base + i) = ky x := by unfold K ky; rw [hi]
  unfold beyond'
  refine wpS_bind (wpS_elem hi ?_)
  unfold Bey at h1 h2
  rw [eK] at h1 h2
  cases left with
  | true =>
    simp only [if_true] at h1 h2 ⊢
    refine wpS_lt hk hx hkey ?_
    by_cases hc : ky x < ky k
    · rw [decide_eq_true hc]; exact h1 hc
    · rw [decide_eq_false hc]; exact h2 hc
  | false =>
    simp only [Bool.false_eq_true, if_false] at h1 h2 ⊢
    refine wpS_bind (wpS_lt hk hkey hx ?_)
    refine wpS_pure ?_
    by_cases hc : ky k < ky x
    · rw [decide_eq_true hc]; exact h2 (by omega)
    · rw [decide_eq_false hc]; exact h1 (by omega)

theorem Bey.anti {left : Bool} {k : Keyed} {arr : Array Keyed} {base n i j : Nat} (hmono : ∀ i j, i ≤ j → j < n → K arr (base + i) ≤ K arr (base + j))
    (hij : i ≤ j) (hj : j < n) (h : Bey left k arr base j) : Bey left k arr base i := by
  unfold Bey at h ⊢
  have hm := hmono i j hij hj
  cases left with
  | true => simp only [if_true] at h ⊢; omega
  | false => simp only [Bool.false_eq_true, if_false] at h ⊢; omega

theorem wpS_bis {st : SortSt} {left : Bool} {k : Keyed} {arr : Array Keyed} {base n lo hi : Nat} {Q : Option Nat → SortSt → Prop} (hk : kindOf st = oneType')
    (hkey : IsInt k) (harr : ∀ i, i < n → ∃ x, arr[base + i]? = some x ∧ IsInt x) (hmono : ∀ i j, i ≤ j → j < n → K arr (base + i) ≤ K arr (base + j)) (hlr : lo ≤ hi) (hrn : hi ≤ n)
    (b1 : ∀ i, i < lo → Bey left k arr base i) (b2 : ∀ i, hi ≤ i → i < n → ¬ Bey left k arr base i)
    (h : ∀ r, r ≤ n → (∀ i, i < r → Bey left k arr base i) → (∀ i, r ≤ i → i < n → ¬ Bey left k arr base i) → Q (some r) st) :
    wpS (model prog w) A E s (bis' left k arr base n lo hi) Q st := by
  unfold bis'
  dsimp only
  refine wpS_bind (wpS_mono (wpS_forRange
    (I := fun x c st2 => st2 = st ∧ c.1 = none ∧ c.2.1 ≤ c.2.2 ∧ c.2.2 ≤ n ∧ c.2.2 - c.2.1 ≤ n - x ∧ (∀ i, i < c.2.1 → Bey left k arr base i) ∧ (∀ i, c.2.2 ≤ i → i < n → ¬ Bey left k arr base i))
    (Q := fun c st2 => st2 = st ∧ c.1 = none ∧ c.2.2 ≤ n ∧ (∀ i, i < c.2.2 → Bey left k arr base i) ∧ (∀ i, c.2.2 ≤ i → i < n → ¬ Bey left k arr base i))
    (fun x c st' _ hx hI => ?_) (fun c st' hI => ⟨hI.1, hI.2.1, hI.2.2.2.1, fun i hi => hI.2.2.2.2.2.1 i (by have := hI.2.2.2.2.1; omega), hI.2.2.2.2.2.2⟩) ⟨rfl, rfl, hlr, hrn, by (try dsimp only); omega, b1, b2⟩) fun c st' hq => ?_)
  · obtain ⟨o, l, r⟩ := c
    obtain ⟨rfl, rfl, hlr, hrn, hm, a1, a2⟩ := hI
    dsimp only at hlr hrn hm a1 a2 ⊢
    by_cases hge : l ≥ r
    · rw [if_pos hge]
      exact wpS_pure ⟨rfl, rfl, hrn, fun i hi => a1 i (Nat.lt_of_lt_of_le hi hge), a2⟩
    · rw [if_neg hge]
      have hmid : l + (r - l) / 2 < n := by omega
      obtain ⟨y, hy, hyi⟩ := harr _ hmid
      refine wpS_bind (wpS_beyond hk hkey hy hyi (fun hb => ?_) fun hb => ?_)
      · exact wpS_pure ⟨rfl, rfl, by (try dsimp only); omega, hrn, by (try dsimp only); omega, fun i hi' => hb.anti hmono (Nat.le_of_lt_succ hi') hmid, a2⟩
      · exact wpS_pure ⟨rfl, rfl, by (try dsimp only); omega, by (try dsimp only); omega, by (try dsimp only); omega, a1, fun i hi1 hi2 hbi => hb (hbi.anti hmono hi1 hi2)⟩
  · obtain ⟨o, l, r⟩ := c
    obtain ⟨rfl, rfl, q1, q2, q3⟩ := hq
    exact wpS_pure (h r q1 q2 q3)

set_option maxHeartbeats 2000000 in
theorem wpS_gallop {st : SortSt} {left : Bool} {k : Keyed} {arr : Array Keyed} {base n hint : Nat} {Q : Option Nat → SortSt → Prop} (hk : kindOf st = oneType')
    (hkey : IsInt k) (harr : ∀ i, i < n → ∃ x, arr[base + i]? = some x ∧ IsInt x) (hmono : ∀ i j, i ≤ j → j < n → K arr (base + i) ≤ K arr (base + j)) (hh : hint < n)
    (h : ∀ r, r ≤ n → (∀ i, i < r → Bey left k arr base i) → (∀ i, r ≤ i → i < n → ¬ Bey left k arr base i) → Q (some r) st) :
    wpS (model prog w) A E s (gallop' left k arr base n hint) Q st := by
  rw [gallop'_eq]
  obtain ⟨y, hy, hyi⟩ := harr hint hh
  refine wpS_bind (wpS_beyond hk hkey hy hyi (fun hb => ?_) fun hb => ?_)
  · refine wpS_bind (wpS_mono (wpS_forRange
      (I := fun x c st' => st' = st ∧ c.1 = none ∧ x + 1 ≤ c.2.2 ∧ c.2.1 < c.2.2 ∧ c.2.1 < n - hint ∧ Bey left k arr base (hint + c.2.1))
      (Q := fun c st' => st' = st ∧ c.1 = none ∧ c.2.1 < c.2.2 ∧ c.2.1 < n - hint ∧ Bey left k arr base (hint + c.2.1) ∧ (∀ i, hint + min c.2.2 (n - hint) ≤ i → i < n → ¬ Bey left k arr base i))
      (fun x c st' _ hx hI => ?_) (fun c st' hI => ⟨hI.1, hI.2.1, hI.2.2.2.1, hI.2.2.2.2.1, hI.2.2.2.2.2, fun i hi1 hi2 => absurd hi1 (by have := hI.2.2.1; omega)⟩) ⟨rfl, rfl, Nat.le_refl _, Nat.one_pos, Nat.sub_pos_of_lt hh, (show Bey left k arr base (hint + 0) from hb)⟩) fun c st' hq => ?_)
    · obtain ⟨o, last, ofs⟩ := c
      obtain ⟨rfl, rfl, h1, h2, h3, h4⟩ := hI
      dsimp only at h1 h2 h3 h4 ⊢
      by_cases hge : ofs ≥ n - hint
      · rw [if_pos hge]
        exact wpS_pure ⟨rfl, rfl, h2, h3, h4, fun i hi1 hi2 => absurd hi1 (by dsimp only; omega)⟩
      · rw [if_neg hge]
        have hin : hint + ofs < n := by omega
        obtain ⟨z, hz, hzi⟩ := harr _ hin
        refine wpS_bind (wpS_beyond hk hkey hz hzi (fun hb2 => ?_) fun hb2 => ?_)
        · exact wpS_pure ⟨rfl, rfl, by (try dsimp only); omega, by (try dsimp only); omega, Nat.lt_of_not_le hge, hb2⟩
        · exact wpS_pure ⟨rfl, rfl, h2, h3, h4, fun i hi1 hi2 hbi => hb2 (hbi.anti hmono (by dsimp only at hi1; omega) hi2)⟩
    · obtain ⟨o, last, ofs⟩ := c
      obtain ⟨rfl, rfl, h2, h3, h4, h5⟩ := hq
      dsimp only at h2 h3 h4 h5 ⊢
      exact wpS_bis hk hkey harr hmono (by omega) (by omega) (fun i hi => h4.anti hmono (Nat.le_of_lt_succ hi) (by omega)) h5 h
  · refine wpS_bind (wpS_mono (wpS_forRange
      (I := fun x c st' => st' = st ∧ c.1 = none ∧ x + 1 ≤ c.2.2 ∧ c.2.1 < c.2.2 ∧ c.2.1 < hint + 1 ∧ ¬ Bey left k arr base (hint - c.2.1))
      (Q := fun c st' => st' = st ∧ c.1 = none ∧ c.2.1 < c.2.2 ∧ c.2.1 < hint + 1 ∧ ¬ Bey left k arr base (hint - c.2.1) ∧ (∀ i, i < hint + 1 - min c.2.2 (hint + 1) → Bey left k arr base i))
      (fun x c st' _ hx hI => ?_) (fun c st' hI => ⟨hI.1, hI.2.1, hI.2.2.2.1, hI.2.2.2.2.1, hI.2.2.2.2.2, fun i hi1 => absurd hi1 (by have := hI.2.2.1; omega)⟩) ⟨rfl, rfl, Nat.le_refl _, Nat.one_pos, Nat.succ_pos _, (show ¬ Bey left k arr base (hint - 0) from hb)⟩) fun c st' hq => ?_)
    · obtain ⟨o, last, ofs⟩ := c
      obtain ⟨rfl, rfl, h1, h2, h3, h4⟩ := hI
      dsimp only at h1 h2 h3 h4 ⊢
      by_cases hge : ofs ≥ hint + 1
      · rw [if_pos hge]
        exact wpS_pure ⟨rfl, rfl, h2, h3, h4, fun i hi1 => absurd hi1 (by dsimp only; omega)⟩
      · rw [if_neg hge]
        have hin : hint - ofs < n := by omega
        obtain ⟨z, hz, hzi⟩ := harr _ hin
        refine wpS_bind (wpS_beyond hk hkey hz hzi (fun hb2 => ?_) fun hb2 => ?_)
        · exact wpS_pure ⟨rfl, rfl, h2, h3, h4, fun i hi1 => hb2.anti hmono (by dsimp only at hi1; omega) hin⟩
        · exact wpS_pure ⟨rfl, rfl, by (try dsimp only); omega, by (try dsimp only); omega, Nat.lt_of_not_le hge, hb2⟩
    · obtain ⟨o, last, ofs⟩ := c
      obtain ⟨rfl, rfl, h2, h3, h4, h5⟩ := hq
      dsimp only at h2 h3 h4 h5 ⊢
      exact wpS_bis hk hkey harr hmono (by omega) (by omega) h5 (fun i hi1 hi2 hbi => h4 (hbi.anti hmono hi1 hi2)) h
end
end Mine

namespace Mine
open PySem PyProof PyProof.Rows

noncomputable def mergeLo' : Array Keyed → Array Keyed → StateT SortSt Sem (Array Keyed) := sortPriv% PySem.Builtin.mergeLo

noncomputable def setG (st : SortSt) (g : Nat) : SortSt := SortSt.mk' (kindOf st) (arrOf st) (pendingOf st) g (failedOf st)
noncomputable def setMG (g : Nat) : StateT SortSt Sem Unit := modify fun st => setG st g
noncomputable def doneLo (a b out : Array Keyed) (ia ib : Nat) : Array Keyed := out ++ a.extract ia a.size ++ b.extract ib b.size
noncomputable def lastLo (a b out : Array Keyed) (ia ib : Nat) : Array Keyed := out ++ b.extract ib b.size ++ a.extract ia a.size

noncomputable abbrev LoC := Option (Array Keyed) × Array Keyed × Nat × Nat × Nat × Nat × Nat
noncomputable abbrev LoM := StateT SortSt Sem (ForInStep LoC)
noncomputable def loD (a b out : Array Keyed) (ia ib mg ac bc : Nat) : LoM := do
  let x ← elem' a ia
  if ia + 1 + 1 == a.size then pure (.done (some (lastLo a b (out.push x) (ia + 1) ib), out.push x, ia + 1, ib, mg, ac, bc))
  else if ac < 7 && bc < 7 then pure (.done (none, out.push x, ia + 1, ib, mg, ac, bc))
  else pure (.yield (none, out.push x, ia + 1, ib, mg, ac, bc))
noncomputable def loC (a b out : Array Keyed) (ia ib mg ac bc : Nat) : LoM := do
  let x ← elem' b ib
  if ib + 1 == b.size then pure (.done (some (doneLo a b (out.push x) ia (ib + 1)), out.push x, ia, ib + 1, mg, ac, bc))
  else do
    let y ← elem' a ia
    let r ← gallop' true y b (ib + 1) (b.size - (ib + 1)) 0
    match r with
    | some k =>
      if k > 0 then
        if ib + 1 + k == b.size then pure (.done (some (doneLo a b (out.push x ++ b.extract (ib + 1) (ib + 1 + k)) ia (ib + 1 + k)), out.push x ++ b.extract (ib + 1) (ib + 1 + k), ia, ib + 1 + k, mg, ac, k))
        else loD a b (out.push x ++ b.extract (ib + 1) (ib + 1 + k)) ia (ib + 1 + k) mg ac k
      else loD a b (out.push x) ia (ib + 1) mg ac k
    | _ => pure (.done (some (doneLo a b (out.push x) ia (ib + 1)), out.push x, ia, ib + 1, mg, ac, bc))
noncomputable def loB (a b out : Array Keyed) (ia ib mg ac bc : Nat) : LoM := do
  setMG mg
  let x ← elem' b ib
  let r ← gallop' false x a ia (a.size - ia) 0
  match r with
  | some k =>
    if k > 0 then
      if ia + k + 1 == a.size then pure (.done (some (lastLo a b (out ++ a.extract ia (ia + k)) (ia + k) ib), out ++ a.extract ia (ia + k), ia + k, ib, mg, k, bc))
      else if ia + k == a.size then pure (.done (some (doneLo a b (out ++ a.extract ia (ia + k)) (ia + k) ib), out ++ a.extract ia (ia + k), ia + k, ib, mg, k, bc))
      else loC a b (out ++ a.extract ia (ia + k)) (ia + k) ib mg k bc
    else loC a b out ia ib mg k bc
  | _ => pure (.done (some (doneLo a b out ia ib), out, ia, ib, mg, ac, bc))
noncomputable def loA (a b : Array Keyed) (c : LoC) : LoM :=
  if c.2.2.2.2.1 > 1 then loB a b c.2.1 c.2.2.1 c.2.2.2.1 (c.2.2.2.2.1 - 1) c.2.2.2.2.2.1 c.2.2.2.2.2.2
  else loB a b c.2.1 c.2.2.1 c.2.2.2.1 c.2.2.2.2.1 c.2.2.2.2.2.1 c.2.2.2.2.2.2
noncomputable abbrev LoS := Option (Array Keyed) × Array Keyed × Nat × Nat × Nat × Nat
noncomputable def loS (a b : Array Keyed) (mg : Nat) (c : LoS) : StateT SortSt Sem (ForInStep LoS) := do
  let y ← elem' b c.2.2.2.1
  let x ← elem' a c.2.2.1
  let r ← lt' y x
  match r with
  | some w =>
    if w then do
      let z ← elem' b c.2.2.2.1
      if c.2.2.2.1 + 1 == b.size then pure (.done (some (doneLo a b (c.2.1.push z) c.2.2.1 (c.2.2.2.1 + 1)), c.2.1.push z, c.2.2.1, c.2.2.2.1 + 1, 0, c.2.2.2.2.2 + 1))
      else if c.2.2.2.2.2 + 1 ≥ mg then pure (.done (none, c.2.1.push z, c.2.2.1, c.2.2.2.1 + 1, 0, c.2.2.2.2.2 + 1))
      else pure (.yield (none, c.2.1.push z, c.2.2.1, c.2.2.2.1 + 1, 0, c.2.2.2.2.2 + 1))
    else do
      let z ← elem' a c.2.2.1
      if c.2.2.1 + 1 + 1 == a.size then pure (.done (some (lastLo a b (c.2.1.push z) (c.2.2.1 + 1) c.2.2.2.1), c.2.1.push z, c.2.2.1 + 1, c.2.2.2.1, c.2.2.2.2.1 + 1, 0))
      else if c.2.2.2.2.1 + 1 ≥ mg then pure (.done (none, c.2.1.push z, c.2.2.1 + 1, c.2.2.2.1, c.2.2.2.2.1 + 1, 0))
      else pure (.yield (none, c.2.1.push z, c.2.2.1 + 1, c.2.2.2.1, c.2.2.2.2.1 + 1, 0))
  | _ => pure (.done (some (doneLo a b c.2.1 c.2.2.1 c.2.2.2.1), c.2))
noncomputable abbrev LoO := Option (Array Keyed) × Array Keyed × Nat × Nat × Nat
noncomputable def loO (a b : Array Keyed) (c : LoO) : StateT SortSt Sem (ForInStep LoO) := do
  let d ← forIn [0:a.size + b.size] ((none, c.2.1, c.2.2.1, c.2.2.2.1, 0, 0) : LoS) (fun _ d => loS a b c.2.2.2.2 d)
  match d.1 with
  | some r => pure (.done (some r, d.2.1, d.2.2.1, d.2.2.2.1, c.2.2.2.2))
  | none => do
    rule "list.sort.gallop"
    let e ← forIn [0:a.size + b.size] ((none, d.2.1, d.2.2.1, d.2.2.2.1, c.2.2.2.2 + 1, d.2.2.2.2.1, d.2.2.2.2.2) : LoC) (fun _ e => loA a b e)
    match e.1 with
    | some r => pure (.done (some r, e.2.1, e.2.2.1, e.2.2.2.1, e.2.2.2.2.1))
    | none => do
      setMG (e.2.2.2.2.1 + 1)
      pure (.yield (none, e.2.1, e.2.2.1, e.2.2.2.1, e.2.2.2.2.1 + 1))

theorem mergeLo'_eq (a b : Array Keyed) : mergeLo' a b = (do
  rule "list.sort.merge-lo"
  let x ← elem' b 0
  if 1 == b.size then pure (doneLo a b #[x] 0 1)
  else if 0 + 1 == a.size then pure (lastLo a b #[x] 0 1)
  else do
    let st ← get
    let c ← forIn [0:a.size + b.size] ((none, #[x], 0, 1, gallopOf st) : LoO) (fun _ c => loO a b c)
    match c.1 with
    | some r => pure r
    | none => unsupported "internal:list.sort.merge-bound") := by kernel_rfl

theorem arr_get {xs : Array Keyed} {i : Nat} (h : i < xs.size) : xs[i]? = some xs[i] := getElem?_pos xs i h
theorem K_at {xs : Array Keyed} {i : Nat} (h : i < xs.size) : K xs i = ky xs[i] := by unfold K ky; rw [arr_get h]
theorem ext_list (xs : Array Keyed) (i j : Nat) : (xs.extract i j).toList = (xs.toList.drop i).take (j - i) := by
  rw [Array.toList_extract, List.extract_eq_take_drop]
theorem ext_all (xs : Array Keyed) (i : Nat) : (xs.extract i xs.size).toList = xs.toList.drop i := by
  rw [ext_list, List.take_of_length_le (by simp)]
theorem ext_to (xs : Array Keyed) (i : Nat) : (xs.extract 0 i).toList = xs.toList.take i := by
  rw [ext_list, List.drop_zero, Nat.sub_zero]
theorem one_at {xs : Array Keyed} {i : Nat} (h : i < xs.size) : (xs.toList.drop i).take 1 = [xs[i]] := by
  rw [List.drop_eq_getElem_cons (by simpa using h)]; simp

theorem srt_K {xs : Array Keyed} (h : Srt ky xs.toList) {i j : Nat} (hij : i ≤ j) (hj : j < xs.size) : K xs i ≤ K xs j := by
  rw [K_at hj, K_at (by omega)]
  have := h.le_drop (i := i) (by simp; omega) (y := xs[j]) (by
    rw [List.mem_drop_iff_getElem]
    exact ⟨j - i, by simp; omega, by simp only [Array.getElem_toList]; congr 1; omega⟩)
  simpa using this

theorem mem_chunk {xs : Array Keyed} {i r : Nat} {x : Keyed} (h : x ∈ (xs.toList.drop i).take r) : ∃ j, j < r ∧ ∃ hj : i + j < xs.size, x = xs[i + j] := by
  obtain ⟨j, hj, rfl⟩ := List.getElem_of_mem h
  simp only [List.length_take, List.length_drop, Array.length_toList] at hj
  exact ⟨j, by omega, by omega, by simp⟩
theorem mem_rest {xs : Array Keyed} {i : Nat} {x : Keyed} (h : x ∈ xs.toList.drop i) : ∃ j, i ≤ j ∧ ∃ hj : j < xs.size, x = xs[j] := by
  obtain ⟨j, hj, rfl⟩ := List.getElem_of_mem h
  simp only [List.length_drop, Array.length_toList] at hj
  exact ⟨i + j, by omega, by omega, by simp⟩

theorem srt_le_drop {xs : Array Keyed} (h : Srt ky xs.toList) {i : Nat} (hi : i < xs.size) {y : Keyed} (hy : y ∈ xs.toList.drop i) : ky xs[i] ≤ ky y := by
  have := h.le_drop (i := i) (by simpa using hi) hy
  rwa [Array.getElem_toList] at this

theorem isInt_at {xs : Array Keyed} (hx : ∀ x ∈ xs.toList, IsInt x) {i : Nat} (h : i < xs.size) : IsInt xs[i] := hx _ (by simp)

section pure
variable {a b : Array Keyed}

noncomputable def LoI (a b : Array Keyed) (n : Nat) (out : Array Keyed) (ia ib : Nat) : Prop :=
  MLo ky a.toList b.toList out.toList ia ib ∧ ia + 1 < a.size ∧ ib < b.size ∧ n ≤ ia + ib

noncomputable def LoG (a b res : Array Keyed) : Prop := Merged ky a.toList b.toList res.toList

theorem doneLo_list (out : Array Keyed) (ia ib : Nat) : (doneLo a b out ia ib).toList = out.toList ++ a.toList.drop ia ++ b.toList.drop ib := by
  unfold doneLo; rw [Array.toList_append, Array.toList_append, ext_all, ext_all]
theorem lastLo_list (out : Array Keyed) (ia ib : Nat) : (lastLo a b out ia ib).toList = out.toList ++ b.toList.drop ib ++ a.toList.drop ia := by
  unfold lastLo; rw [Array.toList_append, Array.toList_append, ext_all, ext_all]

theorem good_done {out : Array Keyed} {ia ib : Nat} (h : MLo ky a.toList b.toList out.toList ia ib) (hb : ib = b.size) : LoG a b (doneLo a b out ia ib) := by
  unfold LoG; rw [doneLo_list]; exact h.done (by simpa using hb)
theorem good_doneA {out : Array Keyed} {ia ib : Nat} (h : MLo ky a.toList b.toList out.toList ia ib) (ha : ia = a.size) : LoG a b (doneLo a b out ia ib) := by
  unfold LoG; rw [doneLo_list]; exact h.doneA (by simpa using ha)
theorem good_last {out : Array Keyed} {ia ib : Nat} (h : MLo ky a.toList b.toList out.toList ia ib) (ha : ia + 1 = a.size)
    (hlast : ∀ x ∈ b.toList, ∀ y ∈ a.toList.drop (a.size - 1), ky x ≤ ky y) : LoG a b (lastLo a b out ia ib) := by
  unfold LoG; rw [lastLo_list]; exact h.lastOfA (by rw [show ia = a.size - 1 by omega]; exact hlast)

theorem push_B {out : Array Keyed} {ia ib : Nat} (h : MLo ky a.toList b.toList out.toList ia ib) (sa : Srt ky a.toList) (hia : ia < a.size) (hib : ib < b.size) (hle : ky b[ib] ≤ ky a[ia]) :
    MLo ky a.toList b.toList (out.push b[ib]).toList ia (ib + 1) := by
  have := h.stepB (k := 1) (by
    rw [one_at hib]
    intro x hx y hy
    rw [List.mem_singleton.mp hx]
    exact Int.le_trans hle (srt_le_drop sa hia hy))
  rw [one_at hib] at this
  rw [Array.toList_push]; exact this
theorem push_A {out : Array Keyed} {ia ib : Nat} (h : MLo ky a.toList b.toList out.toList ia ib) (sb : Srt ky b.toList) (hia : ia < a.size) (hib : ib < b.size) (hle : ky a[ia] ≤ ky b[ib]) :
    MLo ky a.toList b.toList (out.push a[ia]).toList (ia + 1) ib := by
  have := push_B h.swap sb hib hia hle
  exact this.swap
theorem chunk_A {out : Array Keyed} {ia ib r : Nat} (h : MLo ky a.toList b.toList out.toList ia ib) (sb : Srt ky b.toList) (hib : ib < b.size)
    (hle : ∀ i, i < r → K a (ia + i) ≤ ky b[ib]) : MLo ky a.toList b.toList (out ++ a.extract ia (ia + r)).toList (ia + r) ib := by
  rw [Array.toList_append, ext_list, show ia + r - ia = r by omega]
  refine h.stepA fun x hx y hy => ?_
  obtain ⟨j, hj, hj', rfl⟩ := mem_chunk hx
  have := hle j hj
  rw [K_at hj'] at this
  exact Int.le_trans this (srt_le_drop sb hib hy)
theorem chunk_B {out : Array Keyed} {ia ib r : Nat} (h : MLo ky a.toList b.toList out.toList ia ib) (sa : Srt ky a.toList) (hia : ia < a.size)
    (hle : ∀ i, i < r → K b (ib + i) ≤ ky a[ia]) : MLo ky a.toList b.toList (out ++ b.extract ib (ib + r)).toList ia (ib + r) :=
  (chunk_A h.swap sa hia hle).swap
end pure

section
variable {prog : Program} {w : World} {A : Around} {E : Value → Shared → Prop} {s : Shared}

theorem wpS_setMG {st : SortSt} {g : Nat} {Q : Unit → SortSt → Prop} (h : Q () (setG st g)) : wpS (model prog w) A E s (setMG g) Q st := wpS_modify h
theorem wpS_eq {α : Type} {M : Model} {x y : Nat} {m₁ m₂ : StateT SortSt Sem α} {Q : α → SortSt → Prop} {st : SortSt} (h₁ : x = y → wpS M A E s m₁ Q st) (h₂ : ¬ x = y → wpS M A E s m₂ Q st) :
    wpS M A E s (if x == y then m₁ else m₂) Q st := by
  by_cases h : x = y
  · rw [if_pos (by simpa using h)]; exact h₁ h
  · rw [if_neg (by simpa using h)]; exact h₂ h
theorem wpS_if {α : Type} {M : Model} {c : Prop} [Decidable c] {m₁ m₂ : StateT SortSt Sem α} {Q : α → SortSt → Prop} {st : SortSt} (h₁ : c → wpS M A E s m₁ Q st) (h₂ : ¬ c → wpS M A E s m₂ Q st) :
    wpS M A E s (if c then m₁ else m₂) Q st := by
  by_cases h : c
  · rw [if_pos h]; exact h₁ h
  · rw [if_neg h]; exact h₂ h

structure LoX (a b : Array Keyed) : Prop where
  ha : ∀ x ∈ a.toList, IsInt x
  hb : ∀ x ∈ b.toList, IsInt x
  sa : Srt ky a.toList
  sb : Srt ky b.toList
  last : ∀ x ∈ b.toList, ∀ y ∈ a.toList.drop (a.size - 1), ky x ≤ ky y

noncomputable def LoR (a b : Array Keyed) (n : Nat) (r : Option (Array Keyed)) (out : Array Keyed) (ia ib : Nat) : Prop := (∃ res, r = some res ∧ LoG a b res) ∨ (r = none ∧ LoI a b n out ia ib)
noncomputable def LoP (a b : Array Keyed) (st : SortSt) (n : Nat) : ForInStep LoC → SortSt → Prop
  | .done c, st' => ∃ g, st' = setG st g ∧ LoR a b n c.1 c.2.1 c.2.2.1 c.2.2.2.1
  | .yield c, st' => ∃ g, st' = setG st g ∧ c.1 = none ∧ LoI a b n c.2.1 c.2.2.1 c.2.2.2.1

variable {st : SortSt} {a b out : Array Keyed} {ia ib n g : Nat}

theorem loD_ok (X : LoX a b) (hm : MLo ky a.toList b.toList out.toList ia ib) (h1 : ia + 1 < a.size) (h2 : ib < b.size) (h3 : n ≤ ia + ib) (hle : ky (a[ia]'(Nat.lt_of_succ_lt h1)) ≤ ky b[ib]) (mg ac bc : Nat) :
    wpS (model prog w) A E s (loD a b out ia ib mg ac bc) (LoP a b st n) (setG st g) := by
  unfold loD
  refine wpS_bind (wpS_elem (arr_get (Nat.lt_of_succ_lt h1)) ?_)
  have hm' := push_A hm X.sb (Nat.lt_of_succ_lt h1) h2 hle
  refine wpS_eq (fun he => wpS_pure ⟨g, rfl, .inl ⟨_, rfl, good_last hm' he X.last⟩⟩) fun he => ?_
  have hI : LoI a b n _ (ia + 1) ib := ⟨hm', Nat.lt_of_le_of_ne h1 he, h2, Nat.le_trans h3 (Nat.add_le_add_right (Nat.le_succ _) _)⟩
  exact wpS_if (fun _ => wpS_pure ⟨g, rfl, .inr ⟨rfl, hI⟩⟩) fun _ => wpS_pure ⟨g, rfl, rfl, hI⟩

theorem loC_ok (X : LoX a b) (hk : kindOf st = oneType') (hm : MLo ky a.toList b.toList out.toList ia ib) (h1 : ia + 1 < a.size) (h2 : ib < b.size) (h3 : n ≤ ia + ib) (hle : ky b[ib] ≤ ky (a[ia]'(Nat.lt_of_succ_lt h1))) (mg ac bc : Nat) :
    wpS (model prog w) A E s (loC a b out ia ib mg ac bc) (LoP a b st n) (setG st g) := by
  unfold loC
  have hia := Nat.lt_of_succ_lt h1
  refine wpS_bind (wpS_elem (arr_get h2) ?_)
  have hm' := push_B hm X.sa hia h2 hle
  refine wpS_eq (fun he => wpS_pure ⟨g, rfl, .inl ⟨_, rfl, good_done hm' he⟩⟩) fun he => ?_
  have h2' : ib + 1 < b.size := Nat.lt_of_le_of_ne h2 he
  have h3' : n ≤ ia + (ib + 1) := Nat.le_succ_of_le h3
  generalize out.push b[ib] = out at hm' ⊢
  clear hm h3 hle he
  generalize ib + 1 = ib at h2' h3' hm' ⊢
  refine wpS_bind (wpS_elem (arr_get hia) (wpS_bind (wpS_gallop hk (isInt_at X.ha _) (fun i hi => ⟨_, arr_get (Nat.add_lt_of_lt_sub' hi), isInt_at X.hb _⟩) (fun i j hij hj => srt_K X.sb (Nat.add_le_add_left hij _) (Nat.add_lt_of_lt_sub' hj)) (Nat.sub_pos_of_lt h2') fun r hr hr1 hr2 => ?_)))
  refine wpS_if (fun hr0 => ?_) fun hr0 => ?_
  · have hm3 := chunk_B (r := r) hm' X.sa hia (fun i hi => Int.le_of_lt (hr1 i hi))
    refine wpS_eq (fun he => wpS_pure ⟨g, rfl, .inl ⟨_, rfl, good_done hm3 he⟩⟩) fun he => ?_
    have h4 : ib + r < b.size := Nat.lt_of_le_of_ne (Nat.add_le_of_le_sub' (Nat.le_of_lt h2') hr) he
    have hx := hr2 r (Nat.le_refl _) (Nat.lt_sub_iff_add_lt'.mpr h4)
    exact loD_ok X hm3 h1 h4 (Nat.le_trans h3' (Nat.add_le_add_left (Nat.le_add_right _ _) _)) (by rw [← K_at h4]; exact Int.not_lt.mp hx) _ _ _
  · have hx := hr2 0 (Nat.not_lt.mp hr0) (Nat.sub_pos_of_lt h2')
    exact loD_ok X hm' h1 h2' h3' (by rw [← K_at h2']; exact Int.not_lt.mp hx) _ _ _

theorem loB_ok (X : LoX a b) (hk : kindOf st = oneType') (hI : LoI a b n out ia ib) (mg ac bc : Nat) :
    wpS (model prog w) A E s (loB a b out ia ib mg ac bc) (LoP a b st n) (setG st g) := by
  obtain ⟨hm, h1, h2, h3⟩ := hI
  unfold loB
  have hia := Nat.lt_of_succ_lt h1
  refine wpS_bind (wpS_setMG (wpS_bind (wpS_elem (arr_get h2) (wpS_bind (wpS_gallop hk (isInt_at X.hb _) (fun i hi => ⟨_, arr_get (Nat.add_lt_of_lt_sub' hi), isInt_at X.ha _⟩) (fun i j hij hj => srt_K X.sa (Nat.add_le_add_left hij _) (Nat.add_lt_of_lt_sub' hj)) (Nat.sub_pos_of_lt hia) fun r hr hr1 hr2 => ?_)))))
  refine wpS_if (fun hr0 => ?_) fun hr0 => ?_
  · have hm1 := chunk_A (r := r) hm X.sb h2 hr1
    refine wpS_eq (fun he => wpS_pure ⟨_, rfl, .inl ⟨_, rfl, good_last hm1 he X.last⟩⟩) fun he => ?_
    refine wpS_eq (fun he => wpS_pure ⟨_, rfl, .inl ⟨_, rfl, good_doneA hm1 he⟩⟩) fun he2 => ?_
    have h4 : ia + r < a.size := Nat.lt_of_le_of_ne (Nat.add_le_of_le_sub' (Nat.le_of_lt hia) hr) he2
    have hx := hr2 r (Nat.le_refl _) (Nat.lt_sub_iff_add_lt'.mpr h4)
    exact loC_ok X hk hm1 (Nat.lt_of_le_of_ne h4 he) h2 (Nat.le_trans h3 (Nat.add_le_add_right (Nat.le_add_right _ _) _)) (by rw [← K_at h4]; exact Int.le_of_lt (Int.not_le.mp hx)) _ _ _
  · have hx := hr2 0 (Nat.not_lt.mp hr0) (Nat.sub_pos_of_lt hia)
    exact loC_ok X hk hm h1 h2 h3 (by rw [← K_at hia]; exact Int.le_of_lt (Int.not_le.mp hx)) _ _ _

theorem loS_ok (X : LoX a b) (hk : kindOf st = oneType') {c : LoS} (hI : LoI a b n c.2.1 c.2.2.1 c.2.2.2.1) (mg : Nat) :
    wpS (model prog w) A E s (loS a b mg c) (fun r st' => match r with
      | .done c' => st' = st ∧ LoR a b (n + 1) c'.1 c'.2.1 c'.2.2.1 c'.2.2.2.1
      | .yield c' => st' = st ∧ c'.1 = none ∧ LoI a b (n + 1) c'.2.1 c'.2.2.1 c'.2.2.2.1) st := by
  obtain ⟨hm, h1, h2, h3⟩ := hI
  unfold loS
  have hia := Nat.lt_of_succ_lt h1
  refine wpS_bind (wpS_elem (arr_get h2) (wpS_bind (wpS_elem (arr_get hia) (wpS_bind (wpS_lt hk (isInt_at X.hb _) (isInt_at X.ha _) ?_)))))
  refine wpS_if (fun hw => wpS_bind (wpS_elem (arr_get h2) ?_)) fun hw => wpS_bind (wpS_elem (arr_get hia) ?_)
  · have hm2 := push_B hm X.sa hia h2 (Int.le_of_lt (of_decide_eq_true hw))
    refine wpS_eq (fun he => wpS_pure ⟨rfl, .inl ⟨_, rfl, good_done hm2 he⟩⟩) fun he => ?_
    have hI : LoI a b (n + 1) _ _ _ := ⟨hm2, h1, Nat.lt_of_le_of_ne h2 he, Nat.succ_le_succ h3⟩
    exact wpS_if (fun _ => wpS_pure ⟨rfl, .inr ⟨rfl, hI⟩⟩) fun _ => wpS_pure ⟨rfl, rfl, hI⟩
  · have hm2 := push_A hm X.sb hia h2 (Int.not_lt.mp (fun q => hw (decide_eq_true q)))
    refine wpS_eq (fun he => wpS_pure ⟨rfl, .inl ⟨_, rfl, good_last hm2 he X.last⟩⟩) fun he => ?_
    have hI : LoI a b (n + 1) _ _ _ := ⟨hm2, Nat.lt_of_le_of_ne h1 he, h2, by rw [Nat.add_right_comm]; exact Nat.succ_le_succ h3⟩
    exact wpS_if (fun _ => wpS_pure ⟨rfl, .inr ⟨rfl, hI⟩⟩) fun _ => wpS_pure ⟨rfl, rfl, hI⟩

theorem LoI.mono {m : Nat} (h : LoI a b n out ia ib) (hm : m ≤ n) : LoI a b m out ia ib := ⟨h.1, h.2.1, h.2.2.1, Nat.le_trans hm h.2.2.2⟩
theorem LoI.end_ (h : LoI a b n out ia ib) (hn : a.size + b.size ≤ n) : False := Nat.not_lt.mpr (Nat.le_trans hn h.2.2.2) (Nat.add_lt_add (Nat.lt_of_succ_lt h.2.1) h.2.2.1)

theorem loO_ok (X : LoX a b) (hk : kindOf st = oneType') {c : LoO} (hI : LoI a b n c.2.1 c.2.2.1 c.2.2.2.1) :
    wpS (model prog w) A E s (loO a b c) (fun r st' => match r with
      | .done c' => ∃ g res, st' = setG st g ∧ c'.1 = some res ∧ LoG a b res
      | .yield c' => ∃ g, st' = setG st g ∧ c'.1 = none ∧ LoI a b (n + 1) c'.2.1 c'.2.2.1 c'.2.2.2.1) (setG st g) := by
  unfold loO
  refine wpS_bind (wpS_mono (wpS_forRange
    (I := fun y d st' => st' = setG st g ∧ d.1 = none ∧ LoI a b (n + y) d.2.1 d.2.2.1 d.2.2.2.1)
    (Q := fun d st' => st' = setG st g ∧ LoR a b (n + 1) d.1 d.2.1 d.2.2.1 d.2.2.2.1)
    (fun y d st' _ _ h => ?_) (fun d st' h => ?_) ⟨rfl, rfl, hI⟩) fun d st' h => ?_)
  · obtain ⟨rfl, _, h⟩ := h
    refine wpS_mono (loS_ok (st := setG st g) X hk h _) fun r st' h' => ?_
    cases r with
    | done c' => exact ⟨h'.1, h'.2.imp id fun q => ⟨q.1, q.2.mono (Nat.succ_le_succ (Nat.le_add_right _ _))⟩⟩
    | yield c' => exact h'
  · exact (h.2.2.end_ (Nat.le_trans (Nat.le_max_right _ _) (Nat.le_add_left _ _))).elim
  · obtain ⟨rfl, h⟩ := h
    rcases h with ⟨res, e, hg⟩ | ⟨e, h⟩
    · rw [e]; exact wpS_pure ⟨g, res, rfl, rfl, hg⟩
    rw [e]
    refine wpS_bind (wpS_lift (wpAny_rule ⟨rfl, ?_⟩))
    refine wpS_bind (wpS_mono (wpS_forRange
      (I := fun _ d st' => ∃ g, st' = setG st g ∧ d.1 = none ∧ LoI a b (n + 1) d.2.1 d.2.2.1 d.2.2.2.1)
      (Q := fun d st' => ∃ g, st' = setG st g ∧ LoR a b (n + 1) d.1 d.2.1 d.2.2.1 d.2.2.2.1)
      (fun y d st' _ _ h => ?_) (fun d st' h => ?_) ⟨g, rfl, rfl, h⟩) fun d st' h => ?_)
    · obtain ⟨g, rfl, _, h⟩ := h
      have k := fun mg => loB_ok (prog := prog) (w := w) (A := A) (E := E) (s := s) (st := st) (g := g) X hk h mg d.2.2.2.2.2.1 d.2.2.2.2.2.2
      refine wpS_mono (Q := LoP a b st (n + 1)) (wpS_if (fun _ => k _) fun _ => k _) fun r st' h' => ?_
      cases r <;> exact h'
    · obtain ⟨g, h⟩ := h; exact ⟨g, h.1, .inr h.2⟩
    · obtain ⟨g, rfl, h⟩ := h
      rcases h with ⟨res, e, hg⟩ | ⟨e, h⟩
      · rw [e]; exact wpS_pure ⟨g, res, rfl, rfl, hg⟩
      · rw [e]
        exact wpS_bind (wpS_setMG (wpS_pure ⟨_, rfl, rfl, h⟩))

theorem wpS_mergeLo {Q : Array Keyed → SortSt → Prop} (hk : kindOf st = oneType') (ha : ∀ x ∈ a.toList, IsInt x) (hb : ∀ x ∈ b.toList, IsInt x)
    (sa : Srt ky a.toList) (sb : Srt ky b.toList) (na : 0 < a.size) (nb : 0 < b.size)
    (hfirst : ky b[0] ≤ ky a[0]) (hlast : ∀ x ∈ b.toList, ∀ y ∈ a.toList.drop (a.size - 1), ky x ≤ ky y)
    (h : ∀ out g, LoG a b out → Q out (setG st g)) : wpS (model prog w) A E s (mergeLo' a b) Q st := by
  rw [mergeLo'_eq]
  refine wpS_bind (wpS_lift (wpAny_rule ⟨rfl, wpS_bind (wpS_elem (arr_get nb) ?_)⟩))
  have m0 : MLo ky a.toList b.toList (#[] : Array Keyed).toList 0 0 := ⟨List.Perm.nil, sa, sb⟩
  have m1 : MLo ky a.toList b.toList (#[b[0]] : Array Keyed).toList 0 1 := push_B m0 sa na nb hfirst
  refine wpS_eq (fun he => wpS_pure (h _ (gallopOf st) (good_done m1 he))) fun hb1 => ?_
  refine wpS_eq (fun he => wpS_pure (h _ (gallopOf st) (good_last m1 he hlast))) fun ha1 => ?_
  refine wpS_bind (wpS_get (wpS_bind (wpS_mono (wpS_forRange
    (I := fun x c st' => ∃ g, st' = setG st g ∧ c.1 = none ∧ LoI a b (x + 1) c.2.1 c.2.2.1 c.2.2.2.1)
    (Q := fun c st' => ∃ g res, st' = setG st g ∧ c.1 = some res ∧ LoG a b res)
    (fun x c st' _ _ h => ?_) (fun c st' h => ?_) ⟨gallopOf st, rfl, rfl, m1, Nat.lt_of_le_of_ne na ha1, Nat.lt_of_le_of_ne nb hb1, Nat.le_refl _⟩) fun c st' h' => ?_)))
  · obtain ⟨g, rfl, _, h⟩ := h
    refine wpS_mono (loO_ok (g := g) ⟨ha, hb, sa, sb, hlast⟩ hk h) fun r st' h' => ?_
    cases r <;> exact h'
  · obtain ⟨g, rfl, _, h⟩ := h
    exact (h.end_ (Nat.le_trans (Nat.le_max_right _ _) (Nat.le_succ _))).elim
  · obtain ⟨g, res, rfl, e, hg⟩ := h'
    rw [e]; exact wpS_pure (h _ _ hg)
end
end Mine

namespace Mine
open PySem PyProof PyProof.Rows

noncomputable def mergeHi' : Array Keyed → Array Keyed → StateT SortSt Sem (Array Keyed) := sortPriv% PySem.Builtin.mergeHi

noncomputable def doneHi (a b out : Array Keyed) (na nb : Nat) : Array Keyed := a.extract 0 na ++ b.extract 0 nb ++ out.reverse
noncomputable def firstHi (a b out : Array Keyed) (na nb : Nat) : Array Keyed := b.extract 0 nb ++ a.extract 0 na ++ out.reverse

noncomputable abbrev HiC := Option (Array Keyed) × Nat × Nat × Array Keyed × Nat × Nat × Nat
noncomputable abbrev HiMo := StateT SortSt Sem (ForInStep HiC)
noncomputable def hiD (a b out : Array Keyed) (na nb mg ac bc : Nat) : HiMo := do
  let x ← elem' a (na - 1)
  if na - 1 == 0 then pure (.done (some (doneHi a b (out.push x) (na - 1) nb), na - 1, nb, out.push x, mg, ac, bc))
  else if ac < 7 && bc < 7 then pure (.done (none, na - 1, nb, out.push x, mg, ac, bc))
  else pure (.yield (none, na - 1, nb, out.push x, mg, ac, bc))
noncomputable def hiC (a b out : Array Keyed) (na nb mg ac bc : Nat) : HiMo := do
  let x ← elem' b (nb - 1)
  if nb - 1 == 1 then pure (.done (some (firstHi a b (out.push x) na (nb - 1)), na, nb - 1, out.push x, mg, ac, bc))
  else do
    let y ← elem' a (na - 1)
    let r ← gallop' true y b 0 (nb - 1) (nb - 1 - 1)
    match r with
    | some k =>
      if nb - 1 - k > 0 then
        if k == 1 then pure (.done (some (firstHi a b (out.push x ++ (b.extract k (nb - 1)).reverse) na k), na, k, out.push x ++ (b.extract k (nb - 1)).reverse, mg, ac, nb - 1 - k))
        else if k == 0 then pure (.done (some (doneHi a b (out.push x ++ (b.extract k (nb - 1)).reverse) na k), na, k, out.push x ++ (b.extract k (nb - 1)).reverse, mg, ac, nb - 1 - k))
        else hiD a b (out.push x ++ (b.extract k (nb - 1)).reverse) na k mg ac (nb - 1 - k)
      else hiD a b (out.push x) na (nb - 1) mg ac (nb - 1 - k)
    | _ => pure (.done (some (doneHi a b (out.push x) na (nb - 1)), na, nb - 1, out.push x, mg, ac, bc))
noncomputable def hiB (a b out : Array Keyed) (na nb mg ac bc : Nat) : HiMo := do
  setMG mg
  let x ← elem' b (nb - 1)
  let r ← gallop' false x a 0 na (na - 1)
  match r with
  | some k =>
    if na - k > 0 then
      if k == 0 then pure (.done (some (doneHi a b (out ++ (a.extract k na).reverse) k nb), k, nb, out ++ (a.extract k na).reverse, mg, na - k, bc))
      else hiC a b (out ++ (a.extract k na).reverse) k nb mg (na - k) bc
    else hiC a b out na nb mg (na - k) bc
  | _ => pure (.done (some (doneHi a b out na nb), na, nb, out, mg, ac, bc))
noncomputable def hiA (a b : Array Keyed) (c : HiC) : HiMo :=
  if c.2.2.2.2.1 > 1 then hiB a b c.2.2.2.1 c.2.1 c.2.2.1 (c.2.2.2.2.1 - 1) c.2.2.2.2.2.1 c.2.2.2.2.2.2
  else hiB a b c.2.2.2.1 c.2.1 c.2.2.1 c.2.2.2.2.1 c.2.2.2.2.2.1 c.2.2.2.2.2.2
noncomputable abbrev HiS := Option (Array Keyed) × Nat × Nat × Array Keyed × Nat × Nat
noncomputable def hiS (a b : Array Keyed) (mg : Nat) (c : HiS) : StateT SortSt Sem (ForInStep HiS) := do
  let y ← elem' b (c.2.2.1 - 1)
  let x ← elem' a (c.2.1 - 1)
  let r ← lt' y x
  match r with
  | some w =>
    if w then do
      let z ← elem' a (c.2.1 - 1)
      if c.2.1 - 1 == 0 then pure (.done (some (doneHi a b (c.2.2.2.1.push z) (c.2.1 - 1) c.2.2.1), c.2.1 - 1, c.2.2.1, c.2.2.2.1.push z, c.2.2.2.2.1 + 1, 0))
      else if c.2.2.2.2.1 + 1 ≥ mg then pure (.done (none, c.2.1 - 1, c.2.2.1, c.2.2.2.1.push z, c.2.2.2.2.1 + 1, 0))
      else pure (.yield (none, c.2.1 - 1, c.2.2.1, c.2.2.2.1.push z, c.2.2.2.2.1 + 1, 0))
    else do
      let z ← elem' b (c.2.2.1 - 1)
      if c.2.2.1 - 1 == 1 then pure (.done (some (firstHi a b (c.2.2.2.1.push z) c.2.1 (c.2.2.1 - 1)), c.2.1, c.2.2.1 - 1, c.2.2.2.1.push z, 0, c.2.2.2.2.2 + 1))
      else if c.2.2.2.2.2 + 1 ≥ mg then pure (.done (none, c.2.1, c.2.2.1 - 1, c.2.2.2.1.push z, 0, c.2.2.2.2.2 + 1))
      else pure (.yield (none, c.2.1, c.2.2.1 - 1, c.2.2.2.1.push z, 0, c.2.2.2.2.2 + 1))
  | _ => pure (.done (some (doneHi a b c.2.2.2.1 c.2.1 c.2.2.1), c.2))
noncomputable abbrev HiO := Option (Array Keyed) × Nat × Nat × Array Keyed × Nat
noncomputable def hiO (a b : Array Keyed) (c : HiO) : StateT SortSt Sem (ForInStep HiO) := do
  let d ← forIn [0:a.size + b.size] ((none, c.2.1, c.2.2.1, c.2.2.2.1, 0, 0) : HiS) (fun _ d => hiS a b c.2.2.2.2 d)
  match d.1 with
  | some r => pure (.done (some r, d.2.1, d.2.2.1, d.2.2.2.1, c.2.2.2.2))
  | none => do
    rule "list.sort.gallop"
    let e ← forIn [0:a.size + b.size] ((none, d.2.1, d.2.2.1, d.2.2.2.1, c.2.2.2.2 + 1, d.2.2.2.2.1, d.2.2.2.2.2) : HiC) (fun _ e => hiA a b e)
    match e.1 with
    | some r => pure (.done (some r, e.2.1, e.2.2.1, e.2.2.2.1, e.2.2.2.2.1))
    | none => do
      setMG (e.2.2.2.2.1 + 1)
      pure (.yield (none, e.2.1, e.2.2.1, e.2.2.2.1, e.2.2.2.2.1 + 1))

theorem mergeHi'_eq (a b : Array Keyed) : mergeHi' a b = (do
  rule "list.sort.merge-hi"
  let x ← elem' a (a.size - 1)
  if a.size - 1 == 0 then pure (doneHi a b #[x] (a.size - 1) b.size)
  else if b.size == 1 then pure (firstHi a b #[x] (a.size - 1) b.size)
  else do
    let st ← get
    let c ← forIn [0:a.size + b.size] ((none, a.size - 1, b.size, #[x], gallopOf st) : HiO) (fun _ c => hiO a b c)
    match c.1 with
    | some r => pure r
    | none => unsupported "internal:list.sort.merge-bound") := by kernel_rfl

section pure
variable {a b : Array Keyed}

noncomputable def HiM (a b out : Array Keyed) (na nb : Nat) : Prop := MHi ky a.toList b.toList out.toList.reverse na nb
noncomputable def HiI (a b : Array Keyed) (n : Nat) (out : Array Keyed) (na nb : Nat) : Prop :=
  HiM a b out na nb ∧ 0 < na ∧ na ≤ a.size ∧ 1 < nb ∧ nb ≤ b.size ∧ n + na + nb ≤ a.size + b.size

theorem doneHi_list (out : Array Keyed) (na nb : Nat) : (doneHi a b out na nb).toList = a.toList.take na ++ b.toList.take nb ++ out.toList.reverse := by
  unfold doneHi; rw [Array.toList_append, Array.toList_append, ext_to, ext_to, Array.toList_reverse]
theorem firstHi_list (out : Array Keyed) (na nb : Nat) : (firstHi a b out na nb).toList = b.toList.take nb ++ a.toList.take na ++ out.toList.reverse := by
  unfold firstHi; rw [Array.toList_append, Array.toList_append, ext_to, ext_to, Array.toList_reverse]

theorem goodH_done {out : Array Keyed} {na nb : Nat} (h : HiM a b out na nb) (hz : na = 0) : LoG a b (doneHi a b out na nb) := by
  unfold LoG; rw [doneHi_list]; exact h.done hz
theorem goodH_doneB {out : Array Keyed} {na nb : Nat} (h : HiM a b out na nb) (hz : nb = 0) : LoG a b (doneHi a b out na nb) := by
  unfold LoG; rw [doneHi_list]; exact h.doneB hz
theorem goodH_first {out : Array Keyed} {na nb : Nat} (h : HiM a b out na nb) (hz : nb = 1)
    (hfirst : ∀ x ∈ b.toList.take 1, ∀ y ∈ a.toList, ky x ≤ ky y) : LoG a b (firstHi a b out na nb) := by
  unfold LoG; rw [firstHi_list]; subst hz; exact h.firstOfB hfirst

theorem srt_take_le {xs : Array Keyed} (h : Srt ky xs.toList) {i : Nat} (hi : i < xs.size) {y : Keyed} (hy : y ∈ xs.toList.take (i + 1)) : ky y ≤ ky xs[i] := by
  have := h.take_le (i := i) (by simpa using hi) hy
  rwa [Array.getElem_toList] at this
theorem last_one {xs : Array Keyed} {i : Nat} (h : i < xs.size) : (xs.toList.take (i + 1)).drop i = [xs[i]] := by
  rw [List.drop_take, show i + 1 - i = 1 by omega, one_at h]
theorem mem_mid {xs : Array Keyed} {m n : Nat} {x : Keyed} (h : x ∈ (xs.toList.take n).drop m) : ∃ j, m ≤ j ∧ j < n ∧ ∃ hj : j < xs.size, x = xs[j] := by
  rw [List.drop_take] at h
  obtain ⟨j, hj, hj', rfl⟩ := mem_chunk h
  exact ⟨m + j, by omega, by omega, hj', rfl⟩

theorem HiM.swap {out : Array Keyed} {na nb : Nat} (h : HiM a b out na nb) : HiM b a out nb na := MHi.swap h

theorem pushH_A {out : Array Keyed} {na nb : Nat} (h : HiM a b out (na + 1) (nb + 1)) (sb : Srt ky b.toList) (hna : na < a.size) (hnb : nb < b.size) (hle : ky b[nb] ≤ ky a[na]) :
    HiM a b (out.push a[na]) na (nb + 1) := by
  have := MHi.stepA h (m := na) (by omega) (by
    rw [last_one hna]
    intro x hx y hy
    rw [List.mem_singleton.mp hx]
    exact Int.le_trans (srt_take_le sb hnb hy) hle)
  rw [last_one hna] at this
  unfold HiM
  rw [Array.toList_push, List.reverse_append, List.reverse_singleton]
  exact this
theorem pushH_B {out : Array Keyed} {na nb : Nat} (h : HiM a b out (na + 1) (nb + 1)) (sa : Srt ky a.toList) (hna : na < a.size) (hnb : nb < b.size) (hle : ky a[na] ≤ ky b[nb]) :
    HiM a b (out.push b[nb]) (na + 1) nb := (pushH_A h.swap sa hnb hna hle).swap
theorem chunkH_A {out : Array Keyed} {na nb m : Nat} (h : HiM a b out na (nb + 1)) (sb : Srt ky b.toList) (hnb : nb < b.size) (hm : m ≤ na)
    (hle : ∀ i, m ≤ i → i < na → ky b[nb] ≤ K a i) : HiM a b (out ++ (a.extract m na).reverse) m (nb + 1) := by
  have := MHi.stepA h hm (by
    intro x hx y hy
    obtain ⟨j, hj1, hj2, hj3, rfl⟩ := mem_mid hx
    have := hle j hj1 hj2
    rw [K_at hj3] at this
    exact Int.le_trans (srt_take_le sb hnb hy) this)
  unfold HiM
  rw [Array.toList_append, Array.toList_reverse, List.reverse_append, List.reverse_reverse, ext_list, ← List.drop_take]
  exact this
theorem chunkH_B {out : Array Keyed} {na nb m : Nat} (h : HiM a b out (na + 1) nb) (sa : Srt ky a.toList) (hna : na < a.size) (hm : m ≤ nb)
    (hle : ∀ i, m ≤ i → i < nb → ky a[na] ≤ K b i) : HiM a b (out ++ (b.extract m nb).reverse) (na + 1) m := (chunkH_A h.swap sa hna hm hle).swap
end pure

section
variable {prog : Program} {w : World} {A : Around} {E : Value → Shared → Prop} {s : Shared}

structure HiX (a b : Array Keyed) : Prop where
  ha : ∀ x ∈ a.toList, IsInt x
  hb : ∀ x ∈ b.toList, IsInt x
  sa : Srt ky a.toList
  sb : Srt ky b.toList
  first : ∀ x ∈ b.toList.take 1, ∀ y ∈ a.toList, ky x ≤ ky y

noncomputable def HiR (a b : Array Keyed) (n : Nat) (r : Option (Array Keyed)) (na nb : Nat) (out : Array Keyed) : Prop := (∃ res, r = some res ∧ LoG a b res) ∨ (r = none ∧ HiI a b n out na nb)
noncomputable def HiP (a b : Array Keyed) (st : SortSt) (n : Nat) : ForInStep HiC → SortSt → Prop
  | .done c, st' => ∃ g, st' = setG st g ∧ HiR a b n c.1 c.2.1 c.2.2.1 c.2.2.2.1
  | .yield c, st' => ∃ g, st' = setG st g ∧ c.1 = none ∧ HiI a b n c.2.2.2.1 c.2.1 c.2.2.1

variable {st : SortSt} {a b out : Array Keyed} {na nb n g : Nat}

theorem hiD_ok (X : HiX a b) (hm : HiM a b out (na + 1) (nb + 1)) (hna : na < a.size) (hnb : nb < b.size) (h1 : 0 < nb) (hle : ky b[nb] ≤ ky a[na]) (h3 : n + na + (nb + 1) ≤ a.size + b.size) (mg ac bc : Nat) :
    wpS (model prog w) A E s (hiD a b out (na + 1) (nb + 1) mg ac bc) (HiP a b st n) (setG st g) := by
  unfold hiD
  refine wpS_bind (wpS_elem (arr_get hna) ?_)
  have hm' := pushH_A hm X.sb hna hnb hle
  refine wpS_eq (fun he => wpS_pure ⟨g, rfl, .inl ⟨_, rfl, goodH_done hm' he⟩⟩) fun he => ?_
  have hI : HiI a b n _ na (nb + 1) := ⟨hm', Nat.pos_of_ne_zero he, Nat.le_of_lt hna, Nat.succ_lt_succ h1, hnb, h3⟩
  exact wpS_if (fun _ => wpS_pure ⟨g, rfl, .inr ⟨rfl, hI⟩⟩) fun _ => wpS_pure ⟨g, rfl, rfl, hI⟩

theorem mono0 {xs : Array Keyed} (h : Srt ky xs.toList) {m : Nat} (hm : m ≤ xs.size) (i j : Nat) (hij : i ≤ j) (hj : j < m) : K xs (0 + i) ≤ K xs (0 + j) := by
  rw [Nat.zero_add, Nat.zero_add]; exact srt_K h hij (Nat.lt_of_lt_of_le hj hm)
theorem arr0 {xs : Array Keyed} (h : ∀ x ∈ xs.toList, IsInt x) {m : Nat} (hm : m ≤ xs.size) (i : Nat) (hi : i < m) : ∃ x, xs[0 + i]? = some x ∧ IsInt x :=
  ⟨_, by rw [Nat.zero_add]; exact arr_get (Nat.lt_of_lt_of_le hi hm), isInt_at h _⟩

theorem hiC_ok (X : HiX a b) (hk : kindOf st = oneType') (hm : HiM a b out (na + 1) (nb + 1)) (hna : na < a.size) (hnb : nb < b.size) (h1 : 0 < nb) (hle : ky a[na] ≤ ky b[nb]) (h3 : n + (na + 1) + (nb + 1) ≤ a.size + b.size) (mg ac bc : Nat) :
    wpS (model prog w) A E s (hiC a b out (na + 1) (nb + 1) mg ac bc) (HiP a b st n) (setG st g) := by
  unfold hiC
  refine wpS_bind (wpS_elem (arr_get hnb) ?_)
  have hm' := pushH_B hm X.sa hna hnb hle
  refine wpS_eq (fun he => wpS_pure ⟨g, rfl, .inl ⟨_, rfl, goodH_first hm' he X.first⟩⟩) fun he => ?_
  have hnb' := Nat.le_of_lt hnb
  refine wpS_bind (wpS_elem (arr_get hna) (wpS_bind (wpS_gallop hk (isInt_at X.ha _) (arr0 X.hb hnb') (mono0 X.sb hnb') (Nat.pred_lt (Nat.ne_of_gt h1)) fun r hr hr1 hr2 => ?_)))
  have hr1' : ∀ i, i < r → K b i < ky a[na] := fun i hi => Nat.zero_add i ▸ hr1 i hi
  have hr2' : ∀ i, r ≤ i → i < nb → ¬ K b i < ky a[na] := fun i h hi => Nat.zero_add i ▸ hr2 i h hi
  refine wpS_if (fun hr0 => ?_) fun hr0 => ?_
  · have hm3 := chunkH_B hm' X.sa hna hr (fun i h1 h2 => Int.not_lt.mp (hr2' i h1 h2))
    refine wpS_eq (fun he => wpS_pure ⟨g, rfl, .inl ⟨_, rfl, goodH_first hm3 he X.first⟩⟩) fun he1 => ?_
    refine wpS_eq (fun he => wpS_pure ⟨g, rfl, .inl ⟨_, rfl, goodH_doneB hm3 he⟩⟩) fun he0 => ?_
    obtain ⟨r, rfl⟩ := Nat.exists_eq_succ_of_ne_zero he0
    have hrb : r < b.size := Nat.lt_of_lt_of_le hr hnb'
    exact hiD_ok X hm3 hna hrb (Nat.pos_of_ne_zero fun q => he1 (congrArg (· + 1) q)) (by rw [← K_at hrb]; exact Int.le_of_lt (hr1' r (Nat.lt_succ_self _)))
      (Nat.le_trans (Nat.add_le_add (Nat.le_succ (n + na)) (Nat.le_succ_of_le hr)) h3) _ _ _
  · obtain rfl : r = nb := Nat.le_antisymm hr (Nat.le_of_sub_eq_zero (Nat.eq_zero_of_not_pos hr0))
    obtain ⟨r, rfl⟩ := Nat.exists_eq_succ_of_ne_zero (Nat.ne_of_gt h1)
    have hrb : r < b.size := Nat.lt_of_succ_lt hnb
    exact hiD_ok X hm' hna hrb (Nat.pos_of_ne_zero fun q => he (congrArg (· + 1) q)) (by rw [← K_at hrb]; exact Int.le_of_lt (hr1' r (Nat.lt_succ_self _)))
      (Nat.le_trans (Nat.add_le_add (Nat.le_succ (n + na)) (Nat.le_succ _)) h3) _ _ _

theorem hiB_ok (X : HiX a b) (hk : kindOf st = oneType') (hI : HiI a b n out na nb) (mg ac bc : Nat) :
    wpS (model prog w) A E s (hiB a b out na nb mg ac bc) (HiP a b st n) (setG st g) := by
  obtain ⟨hm, h1, h2, h3, h4, h5⟩ := hI
  obtain ⟨nb, rfl⟩ := Nat.exists_eq_succ_of_ne_zero (Nat.ne_of_gt (Nat.lt_of_succ_lt h3))
  obtain ⟨na, rfl⟩ := Nat.exists_eq_succ_of_ne_zero (Nat.ne_of_gt h1)
  have hb0 := Nat.lt_of_succ_lt_succ h3
  unfold hiB
  refine wpS_bind (wpS_setMG (wpS_bind (wpS_elem (arr_get h4) (wpS_bind (wpS_gallop hk (isInt_at X.hb _) (arr0 X.ha h2) (mono0 X.sa h2) (Nat.lt_succ_self _) fun r hr hr1 hr2 => ?_)))))
  have hr1' : ∀ i, i < r → K a i ≤ ky b[nb] := fun i hi => Nat.zero_add i ▸ hr1 i hi
  have hr2' : ∀ i, r ≤ i → i < na + 1 → ¬ K a i ≤ ky b[nb] := fun i h hi => Nat.zero_add i ▸ hr2 i h hi
  refine wpS_if (fun hr0 => ?_) fun hr0 => ?_
  · have hm1 := chunkH_A hm X.sb h4 hr (fun i h1 h2 => Int.le_of_lt (Int.not_le.mp (hr2' i h1 h2)))
    refine wpS_eq (fun he => wpS_pure ⟨_, rfl, .inl ⟨_, rfl, goodH_done hm1 he⟩⟩) fun he0 => ?_
    obtain ⟨r, rfl⟩ := Nat.exists_eq_succ_of_ne_zero he0
    have hra : r < a.size := Nat.lt_of_lt_of_le hr h2
    exact hiC_ok X hk hm1 hra h4 hb0 (by rw [← K_at hra]; exact hr1' r (Nat.lt_succ_self _)) (Nat.le_trans (Nat.add_le_add_right (Nat.add_le_add_left hr n) _) h5) _ _ _
  · obtain rfl : r = na + 1 := Nat.le_antisymm hr (Nat.le_of_sub_eq_zero (Nat.eq_zero_of_not_pos hr0))
    exact hiC_ok X hk hm h2 h4 hb0 (by rw [← K_at h2]; exact hr1' na (Nat.lt_succ_self _)) h5 _ _ _

theorem hiS_ok (X : HiX a b) (hk : kindOf st = oneType') {c : HiS} (hI : HiI a b n c.2.2.2.1 c.2.1 c.2.2.1) (mg : Nat) :
    wpS (model prog w) A E s (hiS a b mg c) (fun r st' => match r with
      | .done c' => st' = st ∧ HiR a b (n + 1) c'.1 c'.2.1 c'.2.2.1 c'.2.2.2.1
      | .yield c' => st' = st ∧ c'.1 = none ∧ HiI a b (n + 1) c'.2.2.2.1 c'.2.1 c'.2.2.1) st := by
  obtain ⟨r, na, nb, out, c⟩ := c
  obtain ⟨hm, h1, h2, h3, h4, h5⟩ := hI
  obtain ⟨nb, rfl⟩ : ∃ k, nb = k + 1 := Nat.exists_eq_succ_of_ne_zero (Nat.ne_of_gt (Nat.lt_of_succ_lt h3))
  obtain ⟨na, rfl⟩ : ∃ k, na = k + 1 := Nat.exists_eq_succ_of_ne_zero (Nat.ne_of_gt h1)
  unfold hiS
  refine wpS_bind (wpS_elem (arr_get h4) (wpS_bind (wpS_elem (arr_get h2) (wpS_bind (wpS_lt hk (isInt_at X.hb _) (isInt_at X.ha _) ?_)))))
  refine wpS_if (fun hw => wpS_bind (wpS_elem (arr_get h2) ?_)) fun hw => wpS_bind (wpS_elem (arr_get h4) ?_)
  · have hm2 := pushH_A hm X.sb h2 h4 (Int.le_of_lt (of_decide_eq_true hw))
    refine wpS_eq (fun he => wpS_pure ⟨rfl, .inl ⟨_, rfl, goodH_done hm2 he⟩⟩) fun he => ?_
    have hI : HiI a b (n + 1) _ na (nb + 1) := ⟨hm2, Nat.pos_of_ne_zero he, Nat.le_of_lt h2, h3, h4, by rw [Nat.add_right_comm n 1 na]; exact h5⟩
    exact wpS_if (fun _ => wpS_pure ⟨rfl, .inr ⟨rfl, hI⟩⟩) fun _ => wpS_pure ⟨rfl, rfl, hI⟩
  · have hm2 := pushH_B hm X.sa h2 h4 (Int.not_lt.mp (fun q => hw (decide_eq_true q)))
    refine wpS_eq (fun he => wpS_pure ⟨rfl, .inl ⟨_, rfl, goodH_first hm2 he X.first⟩⟩) fun he => ?_
    have hI : HiI a b (n + 1) _ (na + 1) nb := ⟨hm2, h1, h2, Nat.lt_of_le_of_ne (Nat.lt_of_succ_lt_succ h3) (Ne.symm he), Nat.le_of_lt h4, by rw [Nat.add_right_comm n, Nat.add_right_comm _ 1 nb]; exact h5⟩
    exact wpS_if (fun _ => wpS_pure ⟨rfl, .inr ⟨rfl, hI⟩⟩) fun _ => wpS_pure ⟨rfl, rfl, hI⟩

theorem HiI.mono {m : Nat} (h : HiI a b n out na nb) (hm : m ≤ n) : HiI a b m out na nb :=
  ⟨h.1, h.2.1, h.2.2.1, h.2.2.2.1, h.2.2.2.2.1, Nat.le_trans (Nat.add_le_add_right (Nat.add_le_add_right hm _) _) h.2.2.2.2.2⟩
theorem HiI.end_ (h : HiI a b n out na nb) (hn : a.size + b.size ≤ n) : False := by
  obtain ⟨_, h1, _, _, _, h5⟩ := h
  omega

theorem hiO_ok (X : HiX a b) (hk : kindOf st = oneType') {c : HiO} (hI : HiI a b n c.2.2.2.1 c.2.1 c.2.2.1) :
    wpS (model prog w) A E s (hiO a b c) (fun r st' => match r with
      | .done c' => ∃ g res, st' = setG st g ∧ c'.1 = some res ∧ LoG a b res
      | .yield c' => ∃ g, st' = setG st g ∧ c'.1 = none ∧ HiI a b (n + 1) c'.2.2.2.1 c'.2.1 c'.2.2.1) (setG st g) := by
  unfold hiO
  refine wpS_bind (wpS_mono (wpS_forRange
    (I := fun y d st' => st' = setG st g ∧ d.1 = none ∧ HiI a b (n + y) d.2.2.2.1 d.2.1 d.2.2.1)
    (Q := fun d st' => st' = setG st g ∧ HiR a b (n + 1) d.1 d.2.1 d.2.2.1 d.2.2.2.1)
    (fun y d st' _ _ h => ?_) (fun d st' h => ?_) ⟨rfl, rfl, hI⟩) fun d st' h => ?_)
  · obtain ⟨rfl, _, h⟩ := h
    refine wpS_mono (hiS_ok (st := setG st g) X hk h _) fun r st' h' => ?_
    cases r with
    | done c' => exact ⟨h'.1, h'.2.imp id fun q => ⟨q.1, q.2.mono (Nat.succ_le_succ (Nat.le_add_right _ _))⟩⟩
    | yield c' => exact h'
  · exact (h.2.2.end_ (Nat.le_trans (Nat.le_max_right _ _) (Nat.le_add_left _ _))).elim
  · obtain ⟨rfl, h⟩ := h
    rcases h with ⟨res, e, hg⟩ | ⟨e, h⟩
    · rw [e]; exact wpS_pure ⟨g, res, rfl, rfl, hg⟩
    rw [e]
    refine wpS_bind (wpS_lift (wpAny_rule ⟨rfl, ?_⟩))
    refine wpS_bind (wpS_mono (wpS_forRange
      (I := fun _ d st' => ∃ g, st' = setG st g ∧ d.1 = none ∧ HiI a b (n + 1) d.2.2.2.1 d.2.1 d.2.2.1)
      (Q := fun d st' => ∃ g, st' = setG st g ∧ HiR a b (n + 1) d.1 d.2.1 d.2.2.1 d.2.2.2.1)
      (fun y d st' _ _ h => ?_) (fun d st' h => ?_) ⟨g, rfl, rfl, h⟩) fun d st' h => ?_)
    · obtain ⟨g, rfl, _, h⟩ := h
      have k := fun mg => hiB_ok (prog := prog) (w := w) (A := A) (E := E) (s := s) (st := st) (g := g) X hk h mg d.2.2.2.2.2.1 d.2.2.2.2.2.2
      refine wpS_mono (Q := HiP a b st (n + 1)) (wpS_if (fun _ => k _) fun _ => k _) fun r st' h' => ?_
      cases r <;> exact h'
    · obtain ⟨g, h⟩ := h; exact ⟨g, h.1, .inr h.2⟩
    · obtain ⟨g, rfl, h⟩ := h
      rcases h with ⟨res, e, hg⟩ | ⟨e, h⟩
      · rw [e]; exact wpS_pure ⟨g, res, rfl, rfl, hg⟩
      · rw [e]
        exact wpS_bind (wpS_setMG (wpS_pure ⟨_, rfl, rfl, h⟩))

theorem wpS_mergeHi {Q : Array Keyed → SortSt → Prop} (hk : kindOf st = oneType') (ha : ∀ x ∈ a.toList, IsInt x) (hb : ∀ x ∈ b.toList, IsInt x)
    (sa : Srt ky a.toList) (sb : Srt ky b.toList) (na : 0 < a.size) (nb : 0 < b.size)
    (hfirst : ∀ x ∈ b.toList.take 1, ∀ y ∈ a.toList, ky x ≤ ky y) (hlast : ky b[b.size - 1] ≤ ky a[a.size - 1])
    (h : ∀ out g, LoG a b out → Q out (setG st g)) : wpS (model prog w) A E s (mergeHi' a b) Q st := by
  rw [mergeHi'_eq]
  have e1 := Nat.sub_add_cancel na
  have e2 := Nat.sub_add_cancel nb
  have la : a.size - 1 < a.size := Nat.pred_lt (Nat.ne_of_gt na)
  refine wpS_bind (wpS_lift (wpAny_rule ⟨rfl, wpS_bind (wpS_elem (arr_get la) ?_)⟩))
  have m1 : HiM a b (#[a[a.size - 1]] : Array Keyed) (a.size - 1) b.size := by
    have m0 : HiM a b (#[] : Array Keyed) (a.size - 1 + 1) (b.size - 1 + 1) := by
      rw [e1, e2]
      refine ⟨?_, ?_, ?_⟩
      · rw [← Array.length_toList, List.drop_length, ← Array.length_toList, List.drop_length]; exact List.Perm.nil
      · rw [← Array.length_toList, List.take_length]; exact (List.append_nil _).symm ▸ sa
      · rw [← Array.length_toList, List.take_length]; exact (List.append_nil _).symm ▸ sb
    have := pushH_A m0 sb la (Nat.pred_lt (Nat.ne_of_gt nb)) hlast
    rwa [e2] at this
  refine wpS_eq (fun he => wpS_pure (h _ (gallopOf st) (goodH_done m1 he))) fun ha1 => ?_
  refine wpS_eq (fun he => wpS_pure (h _ (gallopOf st) (goodH_first m1 he hfirst))) fun hb1 => ?_
  refine wpS_bind (wpS_get (wpS_bind (wpS_mono (wpS_forRange
    (I := fun x c st' => ∃ g, st' = setG st g ∧ c.1 = none ∧ HiI a b (x + 1) c.2.2.2.1 c.2.1 c.2.2.1)
    (Q := fun c st' => ∃ g res, st' = setG st g ∧ c.1 = some res ∧ LoG a b res)
    (fun x c st' _ _ h => ?_) (fun c st' h => ?_) ⟨gallopOf st, rfl, rfl, m1, Nat.pos_of_ne_zero ha1, Nat.sub_le _ _, Nat.lt_of_le_of_ne nb (Ne.symm hb1), Nat.le_refl _, by show 0 + 1 + (a.size - 1) + b.size ≤ _; rw [Nat.zero_add, Nat.add_comm 1, e1]; exact Nat.le_refl _⟩) fun c st' h' => ?_)))
  · obtain ⟨g, rfl, _, h⟩ := h
    refine wpS_mono (hiO_ok (g := g) ⟨ha, hb, sa, sb, hfirst⟩ hk h) fun r st' h' => ?_
    cases r <;> exact h'
  · obtain ⟨g, rfl, _, h⟩ := h
    exact (h.end_ (Nat.le_trans (Nat.le_max_right _ _) (Nat.le_succ _))).elim
  · obtain ⟨g, res, rfl, e, hg⟩ := h'
    rw [e]; exact wpS_pure (h _ _ hg)
end
end Mine

namespace Mine
open PySem PyProof PyProof.Rows

/-- the array is sorted from one place up to another. -/
noncomputable def SIn (xs : Array Keyed) (lo hi : Nat) : Prop := ∀ i j, lo ≤ i → i ≤ j → j < hi → K xs i ≤ K xs j

structure TB (a₀ : Array Keyed) (st : SortSt) : Prop where
  perm : (arrOf st).Perm a₀
  kind : kindOf st = oneType'
  failed : failedOf st = none

theorem TB.size {a₀ : Array Keyed} {st : SortSt} (h : TB a₀ st) : (arrOf st).size = a₀.size := h.perm.size_eq
theorem TB.ints {a₀ : Array Keyed} {st : SortSt} (h : TB a₀ st) (h0 : IntKeys a₀) : ∀ x ∈ (arrOf st).toList, IsInt x := fun x hx =>
  h0 x ((Array.perm_iff_toList_perm.mp h.perm).mem_iff.mp hx)
theorem TB.setArr {a₀ : Array Keyed} {st : SortSt} (h : TB a₀ st) {xs : Array Keyed} (hp : xs.Perm (arrOf st)) : TB a₀ (setArr st xs) :=
  ⟨hp.trans h.perm, h.kind, h.failed⟩

noncomputable def writeAt (arr : Array Keyed) (sa : Nat) (m : Array Keyed) : Array Keyed := m.toList.zipIdx.foldl (fun a (p, j) => a.setIfInBounds (sa + j) p) arr

theorem write_list (sa : Nat) : ∀ (l : List Keyed) (k : Nat) (arr : Array Keyed), sa + k + l.length ≤ arr.size →
    ((l.zipIdx k).foldl (fun a (p, j) => a.setIfInBounds (sa + j) p) arr).toList = arr.toList.take (sa + k) ++ l ++ arr.toList.drop (sa + k + l.length)
  | [], k, arr, h => by simp
  | x :: l, k, arr, h => by
    rw [List.zipIdx_cons, List.foldl_cons]
    rw [List.length_cons] at h
    have ih := write_list sa l (k + 1) (arr.setIfInBounds (sa + k) x) (by rw [Array.size_setIfInBounds]; omega)
    rw [ih, Array.toList_setIfInBounds]
    have hlt : sa + k < arr.toList.length := by simp; omega
    have e1 : (arr.toList.set (sa + k) x).take (sa + (k + 1)) = arr.toList.take (sa + k) ++ [x] := by
      rw [show sa + (k + 1) = (sa + k) + 1 by omega, List.take_succ_eq_append_getElem (by simpa using hlt), List.take_set_of_le (Nat.le_refl _)]
      simp
    have e2 : (arr.toList.set (sa + k) x).drop (sa + (k + 1) + l.length) = arr.toList.drop (sa + k + (l.length + 1)) := by
      rw [List.drop_set_of_lt (by omega)]; congr 1; omega
    rw [e1, e2, List.length_cons]
    simp

theorem writeAt_list {arr m : Array Keyed} {sa : Nat} (h : sa + m.size ≤ arr.size) : (writeAt arr sa m).toList = arr.toList.take sa ++ m.toList ++ arr.toList.drop (sa + m.size) := by
  have := write_list sa m.toList 0 arr (by simpa using h)
  simpa [writeAt] using this

theorem writeAt_get {arr m : Array Keyed} {sa : Nat} (h : sa + m.size ≤ arr.size) (i : Nat) :
    (writeAt arr sa m)[i]? = if sa ≤ i ∧ i < sa + m.size then m[i - sa]? else arr[i]? := by
  rw [← Array.getElem?_toList, writeAt_list h]
  have l1 : (arr.toList.take sa).length = sa := by simp; omega
  by_cases h1 : sa ≤ i ∧ i < sa + m.size
  · rw [if_pos h1, List.append_assoc, List.getElem?_append_right (by omega), l1, List.getElem?_append_left (by simp; omega), Array.getElem?_toList]
  · rw [if_neg h1]
    by_cases h2 : i < sa
    · rw [List.append_assoc, List.getElem?_append_left (by omega), List.getElem?_take_of_lt h2, Array.getElem?_toList]
    · rw [List.getElem?_append_right (by rw [List.length_append, l1]; simp; omega), List.length_append, l1, List.getElem?_drop, Array.length_toList, ← Array.getElem?_toList]
      congr 1; omega

theorem writeAt_perm {arr m : Array Keyed} {sa n : Nat} (hn : m.size = n) (h : sa + n ≤ arr.size) (hp : m.toList.Perm ((arr.toList.drop sa).take n)) : (writeAt arr sa m).Perm arr := by
  refine Array.perm_iff_toList_perm.mpr ?_
  rw [writeAt_list (by omega), hn]
  refine ((List.Perm.append_left _ hp).append_right _).trans ?_
  have e : arr.toList.take sa ++ (arr.toList.drop sa).take n ++ arr.toList.drop (sa + n) = arr.toList := by
    rw [← List.take_add, List.take_append_drop]
  rw [e]

theorem sin_ext {xs : Array Keyed} {i j : Nat} (h : SIn xs i j) (hj : j ≤ xs.size) : Srt ky (xs.extract i j).toList := by
  unfold Srt
  rw [List.pairwise_iff_getElem]
  intro p q hp hq hpq
  simp only [Array.length_toList, Array.size_extract] at hp hq
  simp only [Array.getElem_toList, Array.getElem_extract]
  have := h (i + p) (i + q) (by omega) (by omega) (by omega)
  rwa [K_at (by omega), K_at (by omega)] at this

theorem mergeAt'_eq (i : Nat) : mergeAt' i = (do
  let s ← get
  let (some (sa, na, power), some (sb, nb, _)) := ((pendingOf s)[i]?, (pendingOf s)[i + 1]?) | unsupported "internal:list.sort.pending"
  set (setPending s (((pendingOf s).setIfInBounds i (sa, na + nb, power)).eraseIdxIfInBounds (i + 1)))
  let some k ← gallop' false (← elem' (arrOf s) sb) (arrOf s) sa na 0 | return false
  let (sa, na) := (sa + k, na - k)
  if na == 0 then return true
  let some nb ← gallop' true (← elem' (arrOf s) (sa + na - 1)) (arrOf s) sb nb (nb - 1) | return false
  if nb == 0 then return true
  let x := (arrOf s).extract sa sb
  let y := (arrOf s).extract sb (sb + nb)
  let merged ← if na ≤ nb then mergeLo' x y else mergeHi' x y
  modify fun s => Rows.setArr s (writeAt (arrOf s) sa merged)
  return (failedOf (← get)).isNone) := rfl

theorem merged_K {xs x y m : Array Keyed} {sa sb e : Nat} (hx : x = xs.extract sa sb) (hy : y = xs.extract sb e) (h1 : sa ≤ sb) (h2 : sb ≤ e) (he : e ≤ xs.size) (hg : LoG x y m) :
    m.size = e - sa ∧ m.toList.Perm ((xs.toList.drop sa).take (e - sa)) ∧ (∀ i j, i ≤ j → j < m.size → K m i ≤ K m j) ∧ ∀ i, i < m.size → ∃ t, sa ≤ t ∧ t < e ∧ K m i = K xs t := by
  have exy : x.toList ++ y.toList = (xs.toList.drop sa).take (e - sa) := by
    rw [hx, hy, ext_list, ext_list, show e - sa = (sb - sa) + (e - sb) by omega, List.take_add, List.drop_drop, show sa + (sb - sa) = sb by omega]
  have hp := hg.perm
  rw [exy] at hp
  have hl := hp.length_eq
  simp only [Array.length_toList, List.length_take, List.length_drop] at hl
  have hsz : m.size = e - sa := by omega
  refine ⟨hsz, hp, fun i j hij hj => srt_K hg.srt hij hj, fun i hi => ?_⟩
  have hm : m[i] ∈ (xs.toList.drop sa).take (e - sa) := hp.mem_iff.mp (by simp)
  obtain ⟨j, hj, hj', ej⟩ := mem_chunk hm
  exact ⟨sa + j, by omega, by omega, by rw [K_at hi, ej, K_at hj']⟩

theorem sin_glue {xs : Array Keyed} {lo mid hi : Nat} (h1 : SIn xs lo mid) (h2 : SIn xs mid hi) (hx : ∀ i, lo ≤ i → i < mid → ∀ j, mid ≤ j → j < hi → K xs i ≤ K xs j) : SIn xs lo hi := fun i j a1 a2 a3 => by
  by_cases hj : j < mid
  · exact h1 i j a1 a2 hj
  · by_cases hi : i < mid
    · exact hx i a1 hi j (Nat.not_lt.mp hj) a3
    · exact h2 i j (Nat.not_lt.mp hi) a2 a3

theorem merge_sin {xs ys m : Array Keyed} {sa p sb q e : Nat} (h1 : sa ≤ p) (h2 : p ≤ sb) (h3 : sb ≤ q) (h4 : q ≤ e) (s1 : SIn xs sa sb) (s2 : SIn xs sb e)
    (lo : ∀ i, sa ≤ i → i < p → ∀ j, sb ≤ j → j < e → K xs i ≤ K xs j) (hi : ∀ j, q ≤ j → j < e → ∀ i, sa ≤ i → i < sb → K xs i ≤ K xs j)
    (m3 : ∀ i j, i ≤ j → j < m.size → K m i ≤ K m j) (m4 : ∀ i, i < m.size → ∃ t, p ≤ t ∧ t < q ∧ K m i = K xs t) (hm : m.size = q - p)
    (hin : ∀ i, p ≤ i → i < q → K ys i = K m (i - p)) (hout : ∀ i, (i < p ∨ q ≤ i) → K ys i = K xs i) : SIn ys sa e := by
  have hpq := Nat.le_trans h2 h3
  have hinT : ∀ i, p ≤ i → i < q → ∃ t, p ≤ t ∧ t < q ∧ K ys i = K xs t := fun i a b => by
    rw [hin i a b]; exact m4 _ (hm ▸ Nat.sub_lt_sub_right a b)
  refine sin_glue (mid := q) (sin_glue (mid := p) (fun i j a1 a2 a3 => ?_) (fun i j a1 a2 a3 => ?_) fun i a1 a2 j a3 a4 => ?_) (fun i j a1 a2 a3 => ?_) fun i a1 a2 j a3 a4 => ?_
  · rw [hout i (.inl (Nat.lt_of_le_of_lt a2 a3)), hout j (.inl a3)]; exact s1 i j a1 a2 (Nat.lt_of_lt_of_le a3 h2)
  · rw [hin i a1 (Nat.lt_of_le_of_lt a2 a3), hin j (Nat.le_trans a1 a2) a3]; exact m3 _ _ (Nat.sub_le_sub_right a2 p) (hm ▸ Nat.sub_lt_sub_right (Nat.le_trans a1 a2) a3)
  · obtain ⟨t, t1, t2, e⟩ := hinT j a3 a4
    rw [hout i (.inl a2), e]
    by_cases ht : t < sb
    · exact s1 i t a1 (Nat.le_trans (Nat.le_of_lt a2) t1) ht
    · exact lo i a1 a2 t (Nat.not_lt.mp ht) (Nat.lt_of_lt_of_le t2 h4)
  · rw [hout i (.inr a1), hout j (.inr (Nat.le_trans a1 a2))]; exact s2 i j (Nat.le_trans h3 a1) a2 a3
  · rw [hout j (.inr a3)]
    by_cases hp : i < p
    · rw [hout i (.inl hp)]; exact hi j a3 a4 i a1 (Nat.lt_of_lt_of_le hp h2)
    · obtain ⟨t, t1, t2, e⟩ := hinT i (Nat.not_lt.mp hp) a2
      rw [e]
      by_cases ht : t < sb
      · exact hi j a3 a4 t (Nat.le_trans h1 t1) ht
      · exact s2 t j (Nat.not_lt.mp ht) (Nat.le_trans (Nat.le_of_lt t2) a3) a4

theorem ext_size {xs : Array Keyed} {i j : Nat} (hj : j ≤ xs.size) : (xs.extract i j).size = j - i := by rw [Array.size_extract, Nat.min_eq_left hj]
theorem ext_K {xs : Array Keyed} {i j t : Nat} (ht : t < (xs.extract i j).size) : ky (xs.extract i j)[t] = K xs (i + t) := by
  rw [Array.getElem_extract, K_at (by rw [Array.size_extract] at ht; omega)]
theorem ext_mem {xs : Array Keyed} {i j k : Nat} (hj : j ≤ xs.size) {u : Keyed} (hu : u ∈ (xs.extract i j).toList.drop k) : ∃ t, i + k ≤ t ∧ t < j ∧ ky u = K xs t := by
  obtain ⟨p, h1, h2, rfl⟩ := mem_rest hu
  exact ⟨i + p, Nat.add_le_add_left h1 i, by rw [ext_size hj] at h2; exact Nat.add_lt_of_lt_sub' h2, ext_K h2⟩
theorem ext_int {xs : Array Keyed} (h : ∀ x ∈ xs.toList, IsInt x) {i j : Nat} : ∀ x ∈ (xs.extract i j).toList, IsInt x := fun x hx => h x (by
  rw [ext_list] at hx; exact List.mem_of_mem_drop (List.mem_of_mem_take hx))

section
variable {prog : Program} {w : World} {A : Around} {E : Value → Shared → Prop} {s : Shared} {a₀ : Array Keyed}

theorem wpS_set {σ : Type} {M : Model} {t : σ} {Q : PUnit → σ → Prop} {st : σ} (h : Q ⟨⟩ t) : wpS M A E s (set t : StateT σ Sem PUnit) Q st := by
  unfold wpS; rw [StateT.run_set]; exact wpAny_pure ⟨rfl, h⟩

theorem after_ok {st : SortSt} {sa p sb q e : Nat} {m : Array Keyed} {g : Nat} {pd : Array (Nat × Nat × Nat)} {Q : Bool → SortSt → Prop} (T : TB a₀ st)
    (h1 : sa ≤ p) (h2 : p ≤ sb) (h3 : sb ≤ q) (h4 : q ≤ e) (h5 : e ≤ (arrOf st).size) (s1 : SIn (arrOf st) sa sb) (s2 : SIn (arrOf st) sb e)
    (lo : ∀ i, sa ≤ i → i < p → ∀ j, sb ≤ j → j < e → K (arrOf st) i ≤ K (arrOf st) j) (hi : ∀ j, q ≤ j → j < e → ∀ i, sa ≤ i → i < sb → K (arrOf st) i ≤ K (arrOf st) j)
    (hg : LoG ((arrOf st).extract p sb) ((arrOf st).extract sb q) m)
    (h : ∀ st', TB a₀ st' → pendingOf st' = pd → SIn (arrOf st') sa e → (∀ j, (j < sa ∨ e ≤ j) → K (arrOf st') j = K (arrOf st) j) → Q true st') :
    wpS (model prog w) A E s (do
        modify fun s => Rows.setArr s (writeAt (arrOf s) p m)
        return (failedOf (← get)).isNone) Q (setG (setPending st pd) g) := by
  obtain ⟨m1, m2, m3, m4⟩ := merged_K rfl rfl h2 h3 (Nat.le_trans h4 h5) hg
  have epq : p + (q - p) = q := Nat.add_sub_cancel' (Nat.le_trans h2 h3)
  have hw : p + m.size ≤ (arrOf st).size := by rw [m1, epq]; exact Nat.le_trans h4 h5
  have hin : ∀ i, p ≤ i → i < q → K (writeAt (arrOf st) p m) i = K m (i - p) := fun i a b => K_congr ((writeAt_get hw i).trans (if_pos ⟨a, by rw [m1, epq]; exact b⟩))
  have hout : ∀ i, (i < p ∨ q ≤ i) → K (writeAt (arrOf st) p m) i = K (arrOf st) i := fun i a => K_congr ((writeAt_get hw i).trans (if_neg fun c => by
    rw [m1, epq] at c; exact a.elim (Nat.not_lt.mpr c.1) (Nat.not_le.mpr c.2)))
  have fin := h (Rows.setArr (setG (setPending st pd) g) (writeAt (arrOf st) p m)) ⟨(writeAt_perm m1 (by rw [epq]; exact Nat.le_trans h4 h5) m2).trans T.perm, T.kind, T.failed⟩ rfl
    (merge_sin h1 h2 h3 h4 s1 s2 lo hi m3 m4 m1 hin hout) fun j hj => hout j (hj.imp (fun a => Nat.lt_of_lt_of_le a h1) fun a => Nat.le_trans h4 a)
  refine wpS_bind (wpS_modify (wpS_bind (wpS_get (wpS_pure ?_))))
  show Q (failedOf st).isNone _
  rw [T.failed]; exact fin

theorem wpS_mergeAt {st : SortSt} {i sa na pw sb nb pw2 : Nat} {Q : Bool → SortSt → Prop} (T : TB a₀ st) (h0 : IntKeys a₀)
    (hp1 : (pendingOf st)[i]? = some (sa, na, pw)) (hp2 : (pendingOf st)[i + 1]? = some (sb, nb, pw2)) (hsb : sb = sa + na) (hna : 0 < na) (hnb : 0 < nb)
    (hsz : sb + nb ≤ a₀.size) (s1 : SIn (arrOf st) sa sb) (s2 : SIn (arrOf st) sb (sb + nb))
    (h : ∀ st', TB a₀ st' → pendingOf st' = ((pendingOf st).setIfInBounds i (sa, na + nb, pw)).eraseIdxIfInBounds (i + 1) → SIn (arrOf st') sa (sb + nb) →
      (∀ j, (j < sa ∨ sb + nb ≤ j) → K (arrOf st') j = K (arrOf st) j) → Q true st') : wpS (model prog w) A E s (mergeAt' i) Q st := by
  rw [mergeAt'_eq]
  have hI := T.ints h0
  rw [← T.size] at hsz
  have hsa : sa < sb := hsb ▸ Nat.lt_add_of_pos_right hna
  have hb : sb < (arrOf st).size := Nat.lt_of_lt_of_le (Nat.lt_add_of_pos_right hnb) hsz
  refine wpS_bind (wpS_get ?_)
  rw [hp1, hp2]
  refine wpS_bind (wpS_set (wpS_bind (wpS_elem (arr_get hb) ?_)))
  refine wpS_bind (wpS_gallop T.kind (isInt_at hI _) (fun i hi => ⟨_, arr_get (Nat.lt_trans (hsb ▸ Nat.add_lt_add_left hi sa) hb), isInt_at hI _⟩)
    (fun i j hij hj => s1 _ _ (Nat.le_add_right _ _) (Nat.add_le_add_left hij sa) (hsb ▸ Nat.add_lt_add_left hj sa)) hna fun k hk hk1 hk2 => ?_)
  have hpk : sa + k ≤ sb := hsb ▸ Nat.add_le_add_left hk sa
  have lo : ∀ i, sa ≤ i → i < sa + k → ∀ j, sb ≤ j → j < sb + nb → K (arrOf st) i ≤ K (arrOf st) j := fun i a1 a2 j a3 a4 => by
    have a : K (arrOf st) (sa + (i - sa)) ≤ _ := hk1 (i - sa) (Nat.sub_lt_left_of_lt_add a1 a2)
    rw [Nat.add_sub_cancel' a1, ← K_at hb] at a
    exact Int.le_trans a (s2 sb j (Nat.le_refl _) a3 a4)
  have ek : sa + k + (na - k) = sb := by rw [Nat.add_assoc, Nat.add_sub_cancel' hk, hsb]
  have T' : TB a₀ (setPending st (((pendingOf st).setIfInBounds i (sa, na + nb, pw)).eraseIdxIfInBounds (i + 1))) := ⟨T.perm, T.kind, T.failed⟩
  refine wpS_eq (fun hz => wpS_pure (h _ T' rfl (sin_glue s1 s2 fun i a1 a2 => lo i a1 (by rw [hz, Nat.add_zero] at ek; rw [ek]; exact a2)) fun _ _ => rfl)) fun hz => ?_
  have hk' : k < na := Nat.lt_of_sub_pos (Nat.pos_of_ne_zero hz)
  have hp' : sa + k < sb := hsb ▸ Nat.add_lt_add_left hk' sa
  have hkx : ¬ K (arrOf st) (sa + k) ≤ K (arrOf st) sb := by rw [K_at hb]; exact hk2 k (Nat.le_refl _) hk'
  clear hk1 hk2 hna hk hk' hz hp1 hp2
  have hl1 : sb - 1 < sb := Nat.sub_lt (Nat.lt_of_le_of_lt (Nat.zero_le _) hsa) Nat.one_pos
  have hl2 := Nat.lt_trans hl1 hb
  rw [ek]
  refine wpS_bind (wpS_elem (arr_get hl2) ?_)
  refine wpS_bind (wpS_gallop T.kind (isInt_at hI _) (fun i hi => ⟨_, arr_get (Nat.lt_of_lt_of_le (Nat.add_lt_add_left hi sb) hsz), isInt_at hI _⟩)
    (fun i j hij hj => s2 _ _ (Nat.le_add_right _ _) (Nat.add_le_add_left hij sb) (Nat.add_lt_add_left hj sb)) (Nat.sub_lt hnb Nat.one_pos) fun r hr hr1 hr2 => ?_)
  have hrx : ∀ t, sb ≤ t → t < sb + r → K (arrOf st) t < K (arrOf st) (sb - 1) := fun t a1 a2 => by
    have a : K (arrOf st) (sb + (t - sb)) < _ := hr1 (t - sb) (Nat.sub_lt_left_of_lt_add a1 a2)
    rwa [Nat.add_sub_cancel' a1, ← K_at hl2] at a
  have hi : ∀ j, sb + r ≤ j → j < sb + nb → ∀ i, sa ≤ i → i < sb → K (arrOf st) i ≤ K (arrOf st) j := fun j a1 a2 i a3 a4 => by
    have a5 := Nat.le_trans (Nat.le_add_right _ _) a1
    have a : ¬ K (arrOf st) (sb + (j - sb)) < _ := hr2 (j - sb) (Nat.le_sub_of_add_le' a1) (Nat.sub_lt_left_of_lt_add a5 a2)
    rw [Nat.add_sub_cancel' a5, ← K_at hl2] at a
    exact Int.le_trans (s1 i (sb - 1) a3 (Nat.le_sub_one_of_lt a4) hl1) (Int.not_lt.mp a)
  refine wpS_eq (fun hz => wpS_pure (h _ T' rfl (sin_glue s1 s2 fun i a1 a2 j a3 a4 => hi j (by rw [hz]; exact a3) a4 i a1 a2) fun _ _ => rfl)) fun hz => ?_
  have hr0 := Nat.pos_of_ne_zero hz
  clear hr1 hr2 hz
  have hq := Nat.add_le_add_left hr sb
  have hqs := Nat.le_trans hq hsz
  have after := fun m g hg => after_ok (m := m) (g := g) (prog := prog) (w := w) (A := A) (E := E) (s := s) T (Nat.le_add_right sa k) hpk (Nat.le_add_right sb r) hq hsz s1 s2 lo hi hg h
  have sx := sin_ext (i := sa + k) (fun p q a1 a2 a3 => s1 p q (Nat.le_trans (Nat.le_add_right _ _) a1) a2 a3) (Nat.le_of_lt hb)
  have sy := sin_ext (j := sb + r) (fun p q a1 a2 a3 => s2 p q a1 a2 (Nat.lt_of_lt_of_le a3 hq)) hqs
  have zx := ext_size (i := sa + k) (Nat.le_of_lt hb)
  have zy : ((arrOf st).extract sb (sb + r)).size = r := (ext_size hqs).trans (Nat.add_sub_cancel_left sb r)
  have px : 0 < ((arrOf st).extract (sa + k) sb).size := by rw [zx]; exact Nat.sub_pos_of_lt hp'
  have py : 0 < ((arrOf st).extract sb (sb + r)).size := by rw [zy]; exact hr0
  have exl : sa + k + (sb - (sa + k) - 1) = sb - 1 := by rw [← Nat.add_sub_assoc (Nat.sub_pos_of_lt hp'), Nat.add_sub_cancel' hpk]
  have hkx := Int.le_of_lt (Int.not_le.mp hkx)
  dsimp only
  refine wpS_if (fun _ => wpS_bind (wpS_mergeLo T.kind (ext_int hI) (ext_int hI) sx sy px py ?_ ?_ fun m g hg => after m g hg)) fun _ => wpS_bind (wpS_mergeHi T.kind (ext_int hI) (ext_int hI) sx sy px py ?_ ?_ fun m g hg => after m g hg)
  · rw [ext_K, ext_K]; exact hkx
  · intro u hu v hv
    obtain ⟨t, t1, t2, eu⟩ := ext_mem (k := 0) hqs hu
    obtain ⟨t', t3, t4, ev⟩ := ext_mem (Nat.le_of_lt hb) hv
    rw [zx, exl] at t3
    rw [eu, ev]
    exact Int.le_trans (Int.le_of_lt (hrx t t1 t2)) (s1 _ t' (Nat.le_sub_one_of_lt hsa) t3 t4)
  · intro u hu v hv
    obtain ⟨t, t1, t2, ev⟩ := ext_mem (k := 0) (Nat.le_of_lt hb) hv
    obtain ⟨j, j1, j2, rfl⟩ := mem_chunk (i := 0) (r := 1) hu
    rw [ext_K, ev, Nat.lt_one_iff.mp j1]
    exact Int.le_trans hkx (s1 _ t (Nat.le_add_right _ _) t1 t2)
  · rw [ext_K, ext_K, zx, exl]
    exact Int.le_of_lt (hrx _ (Nat.le_add_right _ _) (Nat.add_lt_add_left (by rw [zy]; exact Nat.sub_lt hr0 Nat.one_pos) sb))
end
end Mine

namespace Mine
open PySem PyProof PyProof.Rows

noncomputable def NIn (xs : Array Keyed) (lo hi : Nat) : Prop := ∀ i j, lo ≤ i → i ≤ j → j < hi → K xs j ≤ K xs i

noncomputable abbrev AS := Option (Option Nat) × Nat
noncomputable abbrev DS := Option (Option Nat) × Nat × Nat
noncomputable def cAsc (lo a nrem : Nat) : StateT SortSt Sem AS := forIn [a:nrem] ((none, a) : AS) fun _ c => do
  let x ← ltAt' (lo + c.2) (lo + c.2 - 1)
  match x with
  | some sm => if sm then pure (.done (none, c.2)) else pure (.yield (none, c.2 + 1))
  | _ => pure (.done (some none, c.2))
noncomputable def cTail (lo n nrem : Nat) : StateT SortSt Sem (Option Nat) := do
  reverseSlice' lo (lo + n)
  let c ← cAsc lo n nrem
  match c.1 with
  | some r => pure r
  | none => pure (some c.2)
noncomputable def cStep (lo : Nat) (c : DS) : StateT SortSt Sem (ForInStep DS) := do
  let x ← ltAt' (lo + c.2.1) (lo + c.2.1 - 1)
  match x with
  | some sm =>
    if sm then
      if c.2.2 > 0 then do
        reverseSlice' (lo + c.2.1 - (c.2.2 + 1)) (lo + c.2.1)
        pure (.yield (none, c.2.1 + 1, 0))
      else pure (.yield (none, c.2.1 + 1, 0))
    else do
      let y ← ltAt' (lo + c.2.1 - 1) (lo + c.2.1)
      match y with
      | some la => if la then pure (.done (none, c.2.1, c.2.2)) else pure (.yield (none, c.2.1 + 1, c.2.2 + 1))
      | _ => pure (.done (some none, c.2.1, c.2.2))
  | _ => pure (.done (some none, c.2.1, c.2.2))
noncomputable def cPart (lo n nrem : Nat) : StateT SortSt Sem (Option Nat) := do
  rule "list.sort.descending-run"
  let c ← forIn [n + 1:nrem] ((none, n + 1, 0) : DS) (fun _ c => cStep lo c)
  match c.1 with
  | some r => pure r
  | none =>
    if c.2.2 > 0 then do
      reverseSlice' (lo + c.2.1 - (c.2.2 + 1)) (lo + c.2.1)
      cTail lo c.2.1 nrem
    else cTail lo c.2.1 nrem
theorem countRun_eq2 (lo nrem : Nat) : countRun' lo nrem = (do
  let c ← cAsc lo 1 nrem
  match c.1 with
  | some r => pure r
  | none =>
    if c.2 == nrem then pure (some c.2)
    else if c.2 > 1 then do
      let x ← ltAt' lo (lo + c.2 - 1)
      match x with
      | some rose => if rose then pure (some c.2) else do
          reverseSlice' lo (lo + c.2)
          cPart lo c.2 nrem
      | _ => pure none
    else cPart lo c.2 nrem) := by kernel_rfl

section
variable {prog : Program} {w : World} {A : Around} {E : Value → Shared → Prop} {s : Shared} {a₀ : Array Keyed}

theorem wpS_ltT {st : SortSt} {i j : Nat} {Q : Option Bool → SortSt → Prop} (T : TB a₀ st) (h0 : IntKeys a₀) (hi : i < a₀.size) (hj : j < a₀.size)
    (h : Q (some (decide (K (arrOf st) i < K (arrOf st) j))) st) : wpS (model prog w) A E s (ltAt' i j) Q st := by
  have hS := T.size
  rw [ltAt'_eq]
  refine wpS_bind (wpS_get ?_)
  refine wpS_bind (wpS_elem (arr_get (i := i) (by omega)) ?_)
  refine wpS_bind (wpS_elem (arr_get (i := j) (by omega)) ?_)
  refine wpS_lt T.kind (isInt_at (T.ints h0) _) (isInt_at (T.ints h0) _) ?_
  rw [← K_at (by omega), ← K_at (by omega)]
  exact h

theorem sin_snoc {xs : Array Keyed} {lo x : Nat} (h : SIn xs lo x) (hx : lo < x) (hle : K xs (x - 1) ≤ K xs x) : SIn xs lo (x + 1) := by
  intro i j h1 h2 h3
  by_cases hj : j < x
  · exact h i j h1 h2 hj
  · have : j = x := by omega
    subst this
    by_cases hi : i = j
    · subst hi; exact Int.le_refl _
    · exact Int.le_trans (h i (j - 1) h1 (by omega) (by omega)) hle
theorem nin_snoc {xs : Array Keyed} {lo x : Nat} (h : NIn xs lo x) (hx : lo < x) (hle : K xs x ≤ K xs (x - 1)) : NIn xs lo (x + 1) := by
  intro i j h1 h2 h3
  by_cases hj : j < x
  · exact h i j h1 h2 hj
  · have : j = x := by omega
    subst this
    by_cases hi : i = j
    · subst hi; exact Int.le_refl _
    · exact Int.le_trans hle (h i (j - 1) h1 (by omega) (by omega))
theorem sin_snoc' {xs : Array Keyed} {lo x : Nat} (h : SIn xs lo (lo + x)) (hx : 0 < x) (hle : K xs (lo + x - 1) ≤ K xs (lo + x)) : SIn xs lo (lo + (x + 1)) := sin_snoc (x := lo + x) h (by omega) hle
theorem nin_snoc' {xs : Array Keyed} {lo x : Nat} (h : NIn xs lo (lo + x)) (hx : 0 < x) (hle : K xs (lo + x) ≤ K xs (lo + x - 1)) : NIn xs lo (lo + (x + 1)) := nin_snoc (x := lo + x) h (by omega) hle
theorem nin_congr {xs ys : Array Keyed} {lo hi : Nat} (e : ∀ k, K ys k = K xs k) (h : NIn xs lo hi) : NIn ys lo hi := by
  intro i j h1 h2 h3; rw [e, e]; exact h i j h1 h2 h3

variable {st : SortSt} {lo nrem : Nat}

theorem asc_ok {a : Nat} {Q : AS → SortSt → Prop} (T : TB a₀ st) (h0 : IntKeys a₀) (hn : lo + nrem ≤ a₀.size) (ha : 1 ≤ a) (han : a ≤ nrem) (hs : SIn (arrOf st) lo (lo + a))
    (h : ∀ n, 1 ≤ n → n ≤ nrem → SIn (arrOf st) lo (lo + n) → (n = nrem ∨ K (arrOf st) (lo + n) < K (arrOf st) (lo + n - 1)) → Q (none, n) st) : wpS (model prog w) A E s (cAsc lo a nrem) Q st := by
  refine wpS_forRange (I := fun x c st' => st' = st ∧ c = (none, x) ∧ SIn (arrOf st) lo (lo + x)) (fun x c st' hx1 hx hI => ?_) (fun c st' hI => ?_) ⟨rfl, rfl, hs⟩
  · obtain ⟨e, rfl, hs⟩ := hI
    rw [e]
    have h1x := Nat.le_trans ha hx1
    have hlt := Nat.lt_of_lt_of_le (Nat.add_lt_add_left hx lo) hn
    refine wpS_bind (wpS_ltT T h0 hlt (Nat.lt_of_le_of_lt (Nat.sub_le _ _) hlt) ?_)
    exact wpS_if (fun hl => wpS_pure (h x h1x (Nat.le_of_lt hx) hs (.inr (of_decide_eq_true hl)))) fun hl => wpS_pure ⟨rfl, rfl, sin_snoc' hs h1x (Int.not_lt.mp fun q => hl (decide_eq_true q))⟩
  · obtain ⟨e, rfl, hs⟩ := hI
    rw [Nat.max_eq_right han] at hs ⊢
    rw [e]
    exact h nrem (Nat.le_trans ha han) (Nat.le_refl _) hs (.inl rfl)

theorem mirror_sin {zs us : Array Keyed} {x : Nat} (e : ∀ k, K us k = if lo ≤ k ∧ k < lo + x then K zs (lo + (lo + x) - 1 - k) else K zs k) (hN : NIn zs lo (lo + x)) : SIn us lo (lo + x) := by
  intro i j a1 a2 a3
  rw [e, e, if_pos ⟨a1, Nat.lt_of_le_of_lt a2 a3⟩, if_pos ⟨Nat.le_trans a1 a2, a3⟩]
  exact hN _ _ (by omega) (by omega) (by omega)

/-- what a run's end asks of the caller. -/
noncomputable def CQ (st : SortSt) (lo nrem : Nat) (Q : Option Nat → SortSt → Prop) : Prop :=
  ∀ m xs, xs.Perm (arrOf st) → (∀ j, j < lo → K xs j = K (arrOf st) j) → 1 ≤ m → m ≤ nrem → SIn xs lo (lo + m) → Q (some m) (Rows.setArr st xs)
theorem CQ.next {Q : Option Nat → SortSt → Prop} (h : CQ st lo nrem Q) {ys : Array Keyed} (hp : ys.Perm (arrOf st)) (hl : ∀ j, j < lo → K ys j = K (arrOf st) j) : CQ (Rows.setArr st ys) lo nrem Q :=
  fun m xs p l h1 h2 h3 => h m xs (p.trans hp) (fun j hj => (l j hj).trans (hl j hj)) h1 h2 h3

theorem tail_ok {x : Nat} {Q : Option Nat → SortSt → Prop} (T : TB a₀ st) (h0 : IntKeys a₀) (hn : lo + nrem ≤ a₀.size) (hx1 : 1 ≤ x) (hx2 : x ≤ nrem) (hN : NIn (arrOf st) lo (lo + x)) (h : CQ st lo nrem Q) :
    wpS (model prog w) A E s (cTail lo x nrem) Q st := by
  refine wpS_bind (wpS_reverse ?_)
  have e4 := K_mirror (xs := arrOf st) (i := lo) (j := lo + x) (by rw [T.size]; exact Nat.le_trans (Nat.add_le_add_left hx2 lo) hn)
  have hp4 := mirror_perm (arrOf st) lo (lo + x) ((lo + x - lo) / 2)
  generalize mirror (arrOf st) lo (lo + x) ((lo + x - lo) / 2) = us at e4 hp4 ⊢
  exact wpS_bind (asc_ok (T.setArr hp4) h0 hn hx1 hx2 (mirror_sin e4 hN) fun n h1 h2 h3 _ => wpS_pure (h n us hp4 (fun j hj => by rw [e4, if_neg fun q => Nat.not_le.mpr hj q.1]) h1 h2 h3))

noncomputable def DI (lo : Nat) (st st2 : SortSt) (x neq : Nat) : Prop := ∃ ys, st2 = Rows.setArr st ys ∧ ys.Perm (arrOf st) ∧ (∀ j, j < lo → K ys j = K (arrOf st) j) ∧ NIn ys lo (lo + x) ∧ neq + 1 ≤ x ∧
  ∀ i, lo + x - (neq + 1) ≤ i → i < lo + x → K ys i = K ys (lo + x - 1)
theorem last_eq {ys : Array Keyed} {x : Nat} (i : Nat) (h1 : lo + (x + 1) - (0 + 1) ≤ i) (h2 : i < lo + (x + 1)) : K ys i = K ys (lo + (x + 1) - 1) := by
  rw [show i = lo + (x + 1) - 1 by omega]

/-- turning the equal end changes no key. -/
theorem DI.turn {st2 : SortSt} {x neq : Nat} (T : TB a₀ st) (hx : lo + x ≤ a₀.size) (h : DI lo st st2 x neq) : DI lo st (Rows.setArr st2 (mirror (arrOf st2) (lo + x - (neq + 1)) (lo + x) ((lo + x - (lo + x - (neq + 1))) / 2))) x neq := by
  obtain ⟨ys, rfl, hys, hlow, hN, hq, he⟩ := h
  have e2 := K_mirror_equal (xs := ys) (i := lo + x - (neq + 1)) (j := lo + x) (by rw [hys.size_eq, T.size]; exact hx) he
  exact ⟨_, rfl, (mirror_perm _ _ _ _).trans hys, fun j hj => (e2 j).trans (hlow j hj), nin_congr e2 hN, hq, fun i a1 a2 => by rw [e2, e2]; exact he i a1 a2⟩
theorem DI.less {st2 : SortSt} {x neq : Nat} (h : DI lo st st2 x neq) (hl : K (arrOf st2) (lo + x) < K (arrOf st2) (lo + x - 1)) : DI lo st st2 (x + 1) 0 := by
  obtain ⟨ys, rfl, hys, hlow, hN, hq, _⟩ := h
  exact ⟨ys, rfl, hys, hlow, nin_snoc' hN (Nat.lt_of_lt_of_le (Nat.succ_pos _) hq) (Int.le_of_lt hl), Nat.succ_le_succ (Nat.zero_le _), last_eq⟩

theorem step_ok {st2 : SortSt} {x neq : Nat} {r : Option (Option Nat)} (T : TB a₀ st) (h0 : IntKeys a₀) (hx : lo + x < a₀.size) (h : DI lo st st2 x neq) :
    wpS (model prog w) A E s (cStep lo (r, x, neq)) (fun r st' => match r with
      | .done c => c.1 = none ∧ c.2.1 = x ∧ DI lo st st' c.2.1 c.2.2
      | .yield c => c.1 = none ∧ c.2.1 = x + 1 ∧ DI lo st st' c.2.1 c.2.2) st2 := by
  obtain ⟨ys, rfl, hys, hlow, hN, hq, he⟩ := id h
  have T2 : TB a₀ (Rows.setArr st ys) := T.setArr hys
  have hx' := Nat.lt_of_le_of_lt (Nat.sub_le (lo + x) 1) hx
  have hx1 : 0 < x := Nat.lt_of_lt_of_le (Nat.succ_pos _) hq
  refine wpS_bind (wpS_ltT T2 h0 hx hx' ?_)
  refine wpS_if (fun hl => ?_) fun hl => ?_
  · have hl := of_decide_eq_true hl
    refine wpS_if (fun _ => ?_) fun _ => wpS_pure ⟨rfl, rfl, h.less hl⟩
    refine wpS_bind (wpS_reverse (wpS_pure ⟨rfl, rfl, (h.turn T (Nat.le_of_lt hx)).less ?_⟩))
    have e2 := K_mirror_equal (xs := ys) (i := lo + x - (neq + 1)) (j := lo + x) (by rw [hys.size_eq, T.size]; exact Nat.le_of_lt hx) he
    exact (e2 _).symm ▸ (e2 _).symm ▸ hl
  · refine wpS_bind (wpS_ltT T2 h0 hx' hx ?_)
    refine wpS_if (fun _ => wpS_pure ⟨rfl, rfl, h⟩) fun hg => ?_
    have heq : K ys (lo + x) = K ys (lo + x - 1) := Int.le_antisymm (Int.not_lt.mp fun q => hg (decide_eq_true q)) (Int.not_lt.mp fun q => hl (decide_eq_true q))
    refine wpS_pure ⟨rfl, rfl, ys, rfl, hys, hlow, nin_snoc' hN hx1 (Int.le_of_eq heq), Nat.succ_le_succ hq, fun i a1 a2 => ?_⟩
    show K ys i = K ys (lo + x)
    by_cases hix : i = lo + x
    · rw [hix]
    · rw [heq]; exact he i (by clear heq hl hg; dsimp only at a1; omega) (Nat.lt_of_le_of_ne (Nat.le_of_lt_succ a2) hix)

theorem part_ok {n : Nat} {Q : Option Nat → SortSt → Prop} (T : TB a₀ st) (h0 : IntKeys a₀) (hn : lo + nrem ≤ a₀.size) (hn1 : n < nrem) (hN : NIn (arrOf st) lo (lo + (n + 1))) (h : CQ st lo nrem Q) :
    wpS (model prog w) A E s (cPart lo n nrem) Q st := by
  refine wpS_bind (wpS_lift (wpAny_rule ⟨rfl, ?_⟩))
  refine wpS_bind (wpS_mono (wpS_forRange
    (I := fun x c st2 => c.1 = none ∧ c.2.1 = x ∧ DI lo st st2 c.2.1 c.2.2)
    (Q := fun c st2 => c.1 = none ∧ c.2.1 ≤ nrem ∧ DI lo st st2 c.2.1 c.2.2)
    (fun x c st2 _ hx hI => ?_) (fun c st2 hI => ⟨hI.1, Nat.le_of_eq (hI.2.1.trans (Nat.max_eq_right hn1)), hI.2.2⟩)
    ⟨rfl, rfl, arrOf st, rfl, Array.Perm.refl _, fun _ _ => rfl, hN, Nat.succ_le_succ (Nat.zero_le _), last_eq⟩) fun c st2 hI => ?_)
  · obtain ⟨r, y, neq⟩ := c
    obtain ⟨_, e, hI⟩ := hI
    cases e
    refine wpS_mono (step_ok T h0 (Nat.lt_of_lt_of_le (Nat.add_lt_add_left hx lo) hn) hI) fun r st' h' => ?_
    cases r with
    | done c => exact ⟨h'.1, h'.2.1 ▸ Nat.le_of_lt hx, h'.2.2⟩
    | yield c => exact h'
  · obtain ⟨r, x, neq⟩ := c
    obtain ⟨e, hx, hI⟩ := hI
    cases e
    have go : ∀ st3, DI lo st st3 x neq → wpS (model prog w) A E s (cTail lo x nrem) Q st3 := by
      rintro _ ⟨ys, rfl, hys, hlow, hs', hq, _⟩
      exact tail_ok (T.setArr hys) h0 hn (Nat.le_trans (Nat.succ_le_succ (Nat.zero_le _)) hq) hx hs' (h.next hys hlow)
    exact wpS_if (fun _ => wpS_bind (wpS_reverse (go _ (hI.turn T (Nat.le_trans (Nat.add_le_add_left hx lo) hn))))) fun _ => go _ hI

theorem one_sin {xs : Array Keyed} : SIn xs lo (lo + 1) := fun i j a1 a2 a3 => by rw [show i = j by omega]; exact Int.le_refl _

theorem wpS_countRunT {Q : Option Nat → SortSt → Prop} (T : TB a₀ st) (h0 : IntKeys a₀) (hn : lo + nrem ≤ a₀.size) (h1 : 1 ≤ nrem) (h : CQ st lo nrem Q) :
    wpS (model prog w) A E s (countRun' lo nrem) Q st := by
  rw [countRun_eq2]
  refine wpS_bind (asc_ok T h0 hn (Nat.le_refl _) h1 one_sin fun n hn1 hn2 hs hor => ?_)
  have fin := h n (arrOf st) (Array.Perm.refl _) (fun _ _ => rfl) hn1 hn2 hs
  refine wpS_eq (fun _ => wpS_pure fin) fun hnn => ?_
  have hlt := hor.resolve_left hnn
  have hn3 := Nat.lt_of_le_of_ne hn2 hnn
  have hsz : lo + n < a₀.size := Nat.lt_of_lt_of_le (Nat.add_lt_add_left hn3 lo) hn
  refine wpS_if (fun _ => ?_) fun hgt => ?_
  · refine wpS_bind (wpS_ltT T h0 (Nat.lt_of_le_of_lt (Nat.le_add_right _ _) hsz) (Nat.lt_of_le_of_lt (Nat.sub_le _ _) hsz) ?_)
    refine wpS_if (fun _ => wpS_pure fin) fun hrose => ?_
    have hall : ∀ k, lo ≤ k → k < lo + n → K (arrOf st) k = K (arrOf st) (lo + n - 1) := fun k hk1 hk2 =>
      Int.le_antisymm (hs k (lo + n - 1) hk1 (Nat.le_sub_one_of_lt hk2) (Nat.sub_lt (Nat.lt_of_le_of_lt (Nat.zero_le _) hk2) Nat.one_pos)) (Int.le_trans (Int.not_lt.mp fun q => hrose (decide_eq_true q)) (hs lo k (Nat.le_refl _) hk1 hk2))
    have e1 := K_mirror_equal (xs := arrOf st) (i := lo) (j := lo + n) (by rw [T.size]; exact Nat.le_of_lt hsz) hall
    have hp := mirror_perm (arrOf st) lo (lo + n) ((lo + n - lo) / 2)
    refine wpS_bind (wpS_reverse (part_ok (T.setArr hp) h0 hn hn3 (nin_congr e1 (nin_snoc' (fun i j a1 a2 a3 => ?_) hn1 (Int.le_of_lt hlt))) (h.next hp fun j _ => e1 j)))
    rw [hall i a1 (Nat.lt_of_le_of_lt a2 a3), hall j (Nat.le_trans a1 a2) a3]; exact Int.le_refl _
  · obtain rfl : n = 1 := Nat.le_antisymm (Nat.not_lt.mp hgt) hn1
    exact part_ok T h0 hn hn3 (nin_snoc' (fun i j a1 a2 a3 => one_sin j i (Nat.le_trans a1 a2) (Nat.le_trans (Nat.le_of_lt_succ a3) a1) (Nat.lt_of_le_of_lt a2 a3)) Nat.one_pos (Int.le_of_lt hlt)) h
end
end Mine

namespace Mine
open PySem PyProof PyProof.Rows

section
variable {prog : Program} {w : World} {A : Around} {E : Value → Shared → Prop} {s : Shared} {a₀ : Array Keyed}

theorem ins_sin {xs ys : Array Keyed} {lo p q : Nat} (h1 : lo ≤ p) (h2 : p ≤ q) (hs : SIn xs lo q) (hlo : ∀ i, lo ≤ i → i < p → K xs i ≤ K xs q) (hhi : ∀ i, p ≤ i → i < q → K xs q < K xs i)
    (e0 : ∀ i, i < p → K ys i = K xs i) (e1 : K ys p = K xs q) (e2 : ∀ i, p ≤ i → i < q → K ys (i + 1) = K xs i) : SIn ys lo (q + 1) := by
  have pre : ∀ j, p + 1 ≤ j → ∃ k, j = k + 1 ∧ p ≤ k := fun j hj => by
    obtain ⟨k, rfl⟩ := Nat.exists_eq_succ_of_ne_zero (Nat.ne_of_gt (Nat.lt_of_lt_of_le (Nat.succ_pos p) hj))
    exact ⟨k, rfl, Nat.le_of_succ_le_succ hj⟩
  refine sin_glue (mid := p) (fun i j a1 a2 a3 => ?_) (sin_glue (mid := p + 1) one_sin (fun i j a1 a2 a3 => ?_) fun i a1 a2 j a3 a4 => ?_) fun i a1 a2 j a3 a4 => ?_
  · rw [e0 i (Nat.lt_of_le_of_lt a2 a3), e0 j a3]; exact hs i j a1 a2 (Nat.lt_of_lt_of_le a3 h2)
  · obtain ⟨i, rfl, b1⟩ := pre i a1
    obtain ⟨j, rfl, b2⟩ := pre j (Nat.le_trans a1 a2)
    have c2 := Nat.lt_of_succ_lt_succ a3
    have c1 := Nat.le_of_succ_le_succ a2
    rw [e2 i b1 (Nat.lt_of_le_of_lt c1 c2), e2 j b2 c2]; exact hs i j (Nat.le_trans h1 b1) c1 c2
  · obtain rfl := Nat.le_antisymm a1 (Nat.le_of_lt_succ a2)
    obtain ⟨j, rfl, b2⟩ := pre j a3
    rw [e1, e2 j b2 (Nat.lt_of_succ_lt_succ a4)]; exact Int.le_of_lt (hhi j b2 (Nat.lt_of_succ_lt_succ a4))
  · rw [e0 i a2]
    by_cases hj : j = p
    · rw [hj, e1]; exact hlo i a1 a2
    · obtain ⟨j, rfl, b2⟩ := pre j (Nat.lt_of_le_of_ne a3 (Ne.symm hj))
      rw [e2 j b2 (Nat.lt_of_succ_lt_succ a4)]; exact hs i j a1 (Nat.le_trans (Nat.le_of_lt a2) b2) (Nat.lt_of_succ_lt_succ a4)

noncomputable abbrev BS := Option Bool × Nat × Nat
noncomputable def bStep (lo k : Nat) (c : BS) : StateT SortSt Sem (ForInStep BS) :=
  if c.2.1 ≥ c.2.2 then pure (.done (none, c.2.1, c.2.2))
  else do
    let x ← ltAt' (lo + k) (lo + (c.2.1 + c.2.2) / 2)
    match x with
    | some le => if le then pure (.yield (none, c.2.1, (c.2.1 + c.2.2) / 2)) else pure (.yield (none, (c.2.1 + c.2.2) / 2 + 1, c.2.2))
    | _ => pure (.done (some false, c.2.1, c.2.2))
noncomputable def bOne (lo k : Nat) : StateT SortSt Sem (ForInStep (Option Bool × Unit)) := do
  let c ← forIn [0:k] ((none, 0, k) : BS) (fun _ c => bStep lo k c)
  match c.1 with
  | some r => pure (.done (some r, ()))
  | none => do
    moveDown' (lo + k) (lo + c.2.1)
    pure (.yield (none, ()))
theorem binarySort_eq2 (lo n ok : Nat) : binarySort' lo n ok = (do
  let c ← forIn [max ok 1 : n] ((none, ()) : Option Bool × Unit) (fun k _ => bOne lo k)
  match c.1 with
  | some r => pure r
  | none => pure true) := by kernel_rfl

noncomputable def BIv (xs : Array Keyed) (lo k : Nat) (l r : Nat) : Prop := l ≤ r ∧ r ≤ k ∧ (∀ i, lo ≤ i → i < lo + l → K xs i ≤ K xs (lo + k)) ∧ ∀ i, lo + r ≤ i → i < lo + k → K xs (lo + k) < K xs i

theorem mid_facts {l r : Nat} (h : ¬ l ≥ r) : l ≤ (l + r) / 2 ∧ (l + r) / 2 < r := by omega
theorem bStep_ok {st : SortSt} {lo k x : Nat} {c : BS} (T : TB a₀ st) (h0 : IntKeys a₀) (hk : lo + k < a₀.size) (hs : SIn (arrOf st) lo (lo + k)) (hI : BIv (arrOf st) lo k c.2.1 c.2.2) (hm : c.2.2 - c.2.1 ≤ k - x) :
    wpS (model prog w) A E s (bStep lo k c) (fun r st' => st' = st ∧ match r with
      | .done c' => c'.1 = none ∧ BIv (arrOf st) lo k c'.2.1 c'.2.1
      | .yield c' => c'.1 = none ∧ BIv (arrOf st) lo k c'.2.1 c'.2.2 ∧ c'.2.2 - c'.2.1 ≤ k - (x + 1)) st := by
  obtain ⟨_, l, r⟩ := c
  obtain ⟨h1, h2, hlo, hhi⟩ := hI
  refine wpS_if (fun hge => ?_) fun hge => ?_
  · cases Nat.le_antisymm h1 hge
    exact wpS_pure ⟨rfl, rfl, Nat.le_refl _, h2, hlo, hhi⟩
  · obtain ⟨m1, m2⟩ := mid_facts hge
    have hmk := Nat.add_lt_add_left (Nat.lt_of_lt_of_le m2 h2) lo
    refine wpS_bind (wpS_ltT T h0 hk (Nat.lt_trans hmk hk) ?_)
    dsimp only at m1 m2 hmk hm
    refine wpS_if (fun hl => wpS_pure ⟨rfl, rfl, ⟨m1, Nat.le_of_lt (Nat.lt_of_lt_of_le m2 h2), hlo, fun i a1 a2 => ?_⟩, ?_⟩) fun hl => wpS_pure ⟨rfl, rfl, ⟨m2, h2, fun i a1 a2 => ?_, hhi⟩, ?_⟩
    · exact Int.lt_of_lt_of_le (of_decide_eq_true hl) (hs _ _ (Nat.le_add_right _ _) a1 a2)
    · show (l + r) / 2 - l ≤ k - (x + 1)
      clear hlo hhi hs hl hk hmk; omega
    · exact Int.le_trans (hs i _ a1 (Nat.le_of_lt_succ a2) hmk) (Int.not_lt.mp fun q => hl (decide_eq_true q))
    · show r - ((l + r) / 2 + 1) ≤ k - (x + 1)
      clear hlo hhi hs hl hk hmk; omega

theorem bOne_ok {st : SortSt} {lo k : Nat} {Q : ForInStep (Option Bool × Unit) → SortSt → Prop} (T : TB a₀ st) (h0 : IntKeys a₀) (hk : lo + k < a₀.size) (hs : SIn (arrOf st) lo (lo + k))
    (h : ∀ ys, ys.Perm (arrOf st) → (∀ j, j < lo → K ys j = K (arrOf st) j) → SIn ys lo (lo + k + 1) → Q (.yield (none, ())) (Rows.setArr st ys)) : wpS (model prog w) A E s (bOne lo k) Q st := by
  refine wpS_bind (wpS_mono (wpS_forRange (I := fun x c st' => st' = st ∧ c.1 = none ∧ BIv (arrOf st) lo k c.2.1 c.2.2 ∧ c.2.2 - c.2.1 ≤ k - x)
    (Q := fun c st' => st' = st ∧ c.1 = none ∧ BIv (arrOf st) lo k c.2.1 c.2.1) (fun x c st' _ _ hI => ?_) (fun c st' hI => ?_)
    ⟨rfl, rfl, ⟨Nat.zero_le _, Nat.le_refl _, fun i a1 a2 => absurd a2 (Nat.not_lt.mpr a1), fun i a1 a2 => absurd a2 (Nat.not_lt.mpr a1)⟩, Nat.le_refl _⟩) fun c st' hI => ?_)
  · obtain ⟨e, _, hI, hm⟩ := hI
    rw [e]
    refine wpS_mono (bStep_ok T h0 hk hs hI hm) fun r st' h' => ?_
    cases r <;> exact h'
  · obtain ⟨e, e2, ⟨h1, h2, h3, h4⟩, hm⟩ := hI
    have el : c.2.1 = c.2.2 := Nat.le_antisymm h1 (Nat.le_of_sub_eq_zero (Nat.le_zero.mp (Nat.le_trans hm (Nat.le_of_eq (Nat.sub_eq_zero_of_le (Nat.le_max_right _ _))))))
    exact ⟨e, e2, Nat.le_refl _, el ▸ h2, h3, el ▸ h4⟩
  · obtain ⟨e, e2, hI⟩ := hI
    rw [e, e2]
    obtain ⟨_, hlk, hlo, hhi⟩ := hI
    have hks : lo + k < (arrOf st).size := T.size ▸ hk
    have hle := Nat.add_le_add_left hlk lo
    have ed : lo + k - (lo + k - (lo + c.2.1)) = lo + c.2.1 := Nat.sub_sub_self hle
    have eK := K_bubble hks (Nat.sub_le (lo + k) (lo + c.2.1))
    rw [ed] at eK
    rw [moveDown'_eq]
    refine wpS_bind (wpS_modify (wpS_pure (h _ (bubble_perm _ _ _) (fun j hj => ?_) (ins_sin (Nat.le_add_right _ _) hle hs hlo hhi (fun i hi => ?_) ?_ fun i a1 a2 => ?_))))
    · have hj' := Nat.lt_of_lt_of_le hj (Nat.le_add_right lo c.2.1)
      rw [eK, if_neg (Nat.ne_of_lt hj'), if_neg fun q => Nat.lt_asymm q.1 hj']
    · rw [eK, if_neg (Nat.ne_of_lt hi), if_neg fun q => Nat.lt_asymm q.1 hi]
    · rw [eK, if_pos rfl]
    · have b := Nat.lt_succ_of_le a1
      rw [eK, if_neg (Nat.ne_of_gt b), if_pos ⟨b, a2⟩, Nat.add_sub_cancel]

theorem wpS_binarySortT {st : SortSt} {lo n ok : Nat} {Q : Bool → SortSt → Prop} (T : TB a₀ st) (h0 : IntKeys a₀) (hn : lo + n ≤ a₀.size) (hok : ok ≤ n) (hs : SIn (arrOf st) lo (lo + ok))
    (h : ∀ xs, xs.Perm (arrOf st) → (∀ j, j < lo → K xs j = K (arrOf st) j) → SIn xs lo (lo + n) → Q true (Rows.setArr st xs)) :
    wpS (model prog w) A E s (binarySort' lo n ok) Q st := by
  rw [binarySort_eq2]
  refine wpS_bind (wpS_mono (wpS_forRange
    (I := fun k c st' => c.1 = none ∧ ∃ xs, st' = Rows.setArr st xs ∧ xs.Perm (arrOf st) ∧ (∀ j, j < lo → K xs j = K (arrOf st) j) ∧ SIn xs lo (lo + k))
    (Q := fun c st' => c.1 = none ∧ ∃ xs, st' = Rows.setArr st xs ∧ xs.Perm (arrOf st) ∧ (∀ j, j < lo → K xs j = K (arrOf st) j) ∧ SIn xs lo (lo + n)) (fun k c st' hak hkn hI => ?_) (fun c st' hI => ?_)
    ⟨rfl, arrOf st, rfl, Array.Perm.refl _, fun _ _ => rfl, ?_⟩) fun c st' hI => ?_)
  · obtain ⟨_, xs, rfl, hp, hl, hs'⟩ := hI
    exact bOne_ok (T.setArr hp) h0 (Nat.lt_of_lt_of_le (Nat.add_lt_add_left hkn lo) hn) hs' fun ys hp' hl' hs2 => ⟨rfl, ys, rfl, hp'.trans hp, fun j hj => (hl' j hj).trans (hl j hj), hs2⟩
  · obtain ⟨e, xs, e2, hp, hl, hs'⟩ := hI
    exact ⟨e, xs, e2, hp, hl, fun i j a1 a2 a3 => hs' i j a1 a2 (Nat.lt_of_lt_of_le a3 (Nat.add_le_add_left (Nat.le_max_right _ _) lo))⟩
  · by_cases h1 : ok = 0
    · rw [h1]; exact one_sin
    · rw [Nat.max_eq_left (Nat.pos_of_ne_zero h1)]; exact hs
  · obtain ⟨e, xs, rfl, hp, hl, hs'⟩ := hI
    rw [e]
    exact wpS_pure (h xs hp hl hs')

noncomputable def Runs (xs : Array Keyed) : List (Nat × Nat × Nat) → Nat → Nat → Prop
  | [], lo, hi => lo = hi
  | (st, n, _) :: rest, lo, hi => st = lo ∧ 0 < n ∧ SIn xs lo (lo + n) ∧ Runs xs rest (lo + n) hi

theorem Runs.le {xs : Array Keyed} : ∀ {l : List (Nat × Nat × Nat)} {lo hi : Nat}, Runs xs l lo hi → lo + l.length ≤ hi
  | [], lo, hi, h => by have : lo = hi := h
                        simp; omega
  | (st, n, _) :: rest, lo, hi, h => by
    have := h.2.2.2.le
    have := h.2.1
    rw [List.length_cons]; omega

theorem Runs.app {xs : Array Keyed} : ∀ {l m : List (Nat × Nat × Nat)} {lo hi : Nat}, Runs xs (l ++ m) lo hi ↔ ∃ mid, Runs xs l lo mid ∧ Runs xs m mid hi
  | [], m, lo, hi => ⟨fun h => ⟨lo, rfl, h⟩, fun ⟨mid, h1, h2⟩ => by rw [show lo = mid from h1]; exact h2⟩
  | (st, n, p) :: rest, m, lo, hi => by
    constructor
    · rintro ⟨h1, h2, h3, h4⟩
      obtain ⟨mid, h5, h6⟩ := Runs.app.mp h4
      exact ⟨mid, ⟨h1, h2, h3, h5⟩, h6⟩
    · rintro ⟨mid, ⟨h1, h2, h3, h5⟩, h6⟩
      exact ⟨h1, h2, h3, Runs.app.mpr ⟨mid, h5, h6⟩⟩

theorem Runs.congr {xs ys : Array Keyed} : ∀ {l : List (Nat × Nat × Nat)} {lo hi : Nat}, (∀ j, lo ≤ j → j < hi → K ys j = K xs j) → Runs xs l lo hi → Runs ys l lo hi
  | [], lo, hi, _, h => h
  | (st, n, _) :: rest, lo, hi, e, h => by
    have hle := h.2.2.2.le
    refine ⟨h.1, h.2.1, fun i j a1 a2 a3 => ?_, h.2.2.2.congr fun j a1 a2 => e j (by have := h.2.1; omega) a2⟩
    rw [e i (by omega) (by omega), e j (by omega) (by omega)]
    exact h.2.2.1 i j a1 a2 a3

theorem arr_split {p : Array (Nat × Nat × Nat)} {i : Nat} (h : i + 1 < p.size) :
    ∃ pre post sa na pw sb nb pw2, p.toList = pre ++ (sa, na, pw) :: (sb, nb, pw2) :: post ∧ pre.length = i ∧ p[i]? = some (sa, na, pw) ∧ p[i + 1]? = some (sb, nb, pw2) := by
  refine ⟨p.toList.take i, p.toList.drop (i + 2), p[i].1, p[i].2.1, p[i].2.2, p[i + 1].1, p[i + 1].2.1, p[i + 1].2.2, ?_, by simp; omega, by simp [getElem?_pos p i (by omega)], by simp [getElem?_pos p (i + 1) h]⟩
  have e1 : p.toList.drop i = p[i] :: p[i + 1] :: p.toList.drop (i + 2) := by
    rw [List.drop_eq_getElem_cons (by simp; omega), List.drop_eq_getElem_cons (by simp; omega)]
    simp
  conv => lhs; rw [← List.take_append_drop i p.toList, e1]

theorem merge_list {p : Array (Nat × Nat × Nat)} {i : Nat} {pre post : List (Nat × Nat × Nat)} {x y z : Nat × Nat × Nat} (hp : p.toList = pre ++ x :: y :: post) (hi : pre.length = i) :
    ((p.setIfInBounds i z).eraseIdxIfInBounds (i + 1)).toList = pre ++ z :: post := by
  have hl : p.size = pre.length + (post.length + 2) := by
    rw [← Array.length_toList, hp]; simp
  rw [Array.eraseIdxIfInBounds, dif_pos (by rw [Array.size_setIfInBounds]; omega), Array.toList_eraseIdx, Array.toList_setIfInBounds, hp]
  subst hi
  rw [List.set_append_right _ _ (Nat.le_refl _), Nat.sub_self, List.set_cons_zero, List.eraseIdx_append_of_length_le (by omega)]
  simp

/-- a merge keeps the runs. -/
theorem wpS_mergeAtT {st : SortSt} {i hi : Nat} {Q : Bool → SortSt → Prop} (T : TB a₀ st) (h0 : IntKeys a₀) (hi1 : i + 1 < (pendingOf st).size) (hhi : hi ≤ a₀.size)
    (hR : Runs (arrOf st) (pendingOf st).toList 0 hi)
    (h : ∀ st', TB a₀ st' → (pendingOf st').size + 1 = (pendingOf st).size → Runs (arrOf st') (pendingOf st').toList 0 hi → (∀ j, hi ≤ j → K (arrOf st') j = K (arrOf st) j) → Q true st') :
    wpS (model prog w) A E s (mergeAt' i) Q st := by
  obtain ⟨pre, post, sa, na, pw, sb, nb, pw2, hp, hl, e1, e2⟩ := arr_split hi1
  rw [hp] at hR
  obtain ⟨mid, r1, r2⟩ := Runs.app.mp hR
  obtain ⟨q1, q2, q3, q4, q5, q6, q7⟩ := r2
  subst q1
  subst q4
  have hle := q7.le
  refine wpS_mergeAt T h0 e1 e2 rfl q2 q5 (by omega) q3 q6 fun st' T' hp' hs' hk' => ?_
  have hml := merge_list (z := (sa, na + nb, pw)) hp hl
  refine h st' T' ?_ ?_ fun j hj => hk' j (.inr (by omega))
  · have z1 : (pendingOf st').size = pre.length + (post.length + 1) := by
      rw [hp', ← Array.length_toList, hml]; simp
    have z2 : (pendingOf st).size = pre.length + (post.length + 2) := by
      rw [← Array.length_toList, hp]; simp
    omega
  · rw [hp', hml]
    refine Runs.app.mpr ⟨sa, r1.congr fun j a1 a2 => hk' j (.inl a2), rfl, by omega, ?_, ?_⟩
    · rw [← Nat.add_assoc]; exact hs'
    · rw [← Nat.add_assoc]
      exact q7.congr fun j a1 a2 => hk' j (.inr a1)
end
end Mine

namespace Mine
open PySem PyProof PyProof.Rows

theorem Runs.congrP {xs : Array Keyed} : ∀ {l m : List (Nat × Nat × Nat)} {lo hi : Nat}, l.map (fun x => (x.1, x.2.1)) = m.map (fun x => (x.1, x.2.1)) → Runs xs l lo hi → Runs xs m lo hi
  | [], [], _, _, _, h => h
  | [], _ :: _, _, _, e, _ => by simp at e
  | _ :: _, [], _, _, e, _ => by simp at e
  | (st, n, p) :: l, (st', n', p') :: m, lo, hi, e, h => by
    simp only [List.map_cons, List.cons.injEq, Prod.mk.injEq] at e
    obtain ⟨⟨rfl, rfl⟩, e2⟩ := e
    exact ⟨h.1, h.2.1, h.2.2.1, h.2.2.2.congrP e2⟩

theorem ite_succ_lt {c : Prop} [Decidable c] {u v n : Nat} (h1 : u + 1 < n) (h2 : v + 1 < n) : (if c then u else v) + 1 < n := by split <;> assumption

theorem map_modify {p : Array (Nat × Nat × Nat)} (i pw : Nat) :
    p.toList.map (fun x => (x.1, x.2.1)) = (p.modify i fun (st, len, _) => (st, len, pw)).toList.map (fun x => (x.1, x.2.1)) := by
  rw [Array.toList_modify]
  apply List.ext_getElem
  · simp
  · intro n h1 h2
    simp only [List.getElem_map, List.getElem_modify]
    split <;> rfl

section
variable {prog : Program} {w : World} {A : Around} {E : Value → Shared → Prop} {s : Shared} {a₀ : Array Keyed}

theorem wpS_sortRunsT {st : SortSt} {Q : Unit → SortSt → Prop} (h0 : IntKeys a₀) (T : TB a₀ st) (hpe : pendingOf st = #[]) (h2 : 2 ≤ a₀.size)
    (h : ∀ st', (arrOf st').Perm a₀ → failedOf st' = none → SortedTo (arrOf st') a₀.size → Q () st') : wpS (model prog w) A E s sortRuns' Q st := by
  rw [sortRuns'_eq]
  refine wpS_bind (wpS_get ?_)
  dsimp only
  simp only [T.size]
  generalize minRun' a₀.size a₀.size 0 = mr
  refine wpS_bind (wpS_mono (wpS_forRange
    (I := fun x c st' => ∃ lo, c = (none, lo) ∧ TB a₀ st' ∧ Runs (arrOf st') (pendingOf st').toList 0 lo ∧ lo ≤ a₀.size ∧ (x ≤ lo))
    (Q := fun c st' => c = (none, a₀.size) ∧ TB a₀ st' ∧ Runs (arrOf st') (pendingOf st').toList 0 a₀.size) ?step ?fin ⟨0, rfl, T, by rw [hpe]; rfl, by omega, by omega⟩) ?post)
  case fin =>
    rintro c st' ⟨lo, rfl, T', hR, hle, hx⟩
    have : lo = a₀.size := by omega
    subst this
    exact ⟨rfl, T', hR⟩
  case step =>
    rintro x c st' _ hx ⟨lo, rfl, T', hR, hle, hxl⟩
    dsimp only
    by_cases hge : lo ≥ a₀.size
    · rw [if_pos hge]
      have : lo = a₀.size := by omega
      subst this
      exact wpS_pure ⟨rfl, T', hR⟩
    rw [if_neg hge]
    refine wpS_bind (wpS_countRunT T' h0 (by omega) (by omega) fun m xs hp hlow hm1 hm2 hs => ?_)
    dsimp only
    by_cases hmr : m < mr
    case' pos =>
      rw [if_pos hmr]
      refine wpS_bind (wpS_lift (wpAny_rule ⟨rfl, ?_⟩))
      refine wpS_bind (wpS_binarySortT (T'.setArr hp) h0 (by omega) (by omega) hs fun ys hpy hlowy hsy => ?_)
      simp only [Bool.not_true, Bool.false_eq_true, if_false]
      obtain ⟨st3, hst3⟩ : ∃ t, t = Rows.setArr st' ys := ⟨_, rfl⟩
      have T3 : TB a₀ st3 := by rw [hst3]; exact T'.setArr (hpy.trans hp)
      have hR3 : Runs (arrOf st3) (pendingOf st3).toList 0 lo := by rw [hst3]; exact hR.congr fun j _ a2 => (hlowy j a2).trans (hlow j a2)
      have hs3 : SIn (arrOf st3) lo (lo + min (a₀.size - lo) mr) := by rw [hst3]; exact hsy
      have hn1 : 1 ≤ min (a₀.size - lo) mr := by omega
      have hn2 : lo + min (a₀.size - lo) mr ≤ a₀.size := by omega
      show wpS _ _ _ _ _ _ (Rows.setArr st' ys)
      rw [← hst3]
      clear hst3
      generalize min (a₀.size - lo) mr = n at hs3 hn1 hn2 ⊢
    case' neg =>
      rw [if_neg hmr]
      obtain ⟨st3, hst3⟩ : ∃ t, t = Rows.setArr st' xs := ⟨_, rfl⟩
      have T3 : TB a₀ st3 := by rw [hst3]; exact T'.setArr hp
      have hR3 : Runs (arrOf st3) (pendingOf st3).toList 0 lo := by rw [hst3]; exact hR.congr fun j _ a2 => hlow j a2
      have hs3 : SIn (arrOf st3) lo (lo + m) := by rw [hst3]; exact hs
      have hn1 : 1 ≤ m := hm1
      have hn2 : lo + m ≤ a₀.size := by omega
      rw [← hst3]
      clear hst3
    all_goals
      have push : ∀ st4 : SortSt, TB a₀ st4 → Runs (arrOf st4) (pendingOf st4).toList 0 lo → ∀ n, 1 ≤ n → SIn (arrOf st4) lo (lo + n) →
          TB a₀ (setPending st4 ((pendingOf st4).push (lo, n, 0))) ∧ Runs (arrOf st4) ((pendingOf st4).push (lo, n, 0)).toList 0 (lo + n) := by
        intro st4 T4 hR4 n hn hs4
        refine ⟨⟨T4.perm, T4.kind, T4.failed⟩, ?_⟩
        rw [Array.toList_push]
        exact Runs.app.mpr ⟨lo, hR4, rfl, hn, hs4, rfl⟩
      refine wpS_bind (wpS_get ?_)
      cases hb : (pendingOf st3).back? with
      | none =>
        dsimp only
        obtain ⟨T5, hR5⟩ := push st3 T3 hR3 _ hn1 hs3
        exact wpS_bind (wpS_modify (wpS_pure ⟨_, rfl, T5, hR5, hn2, by omega⟩))
      | some last =>
        obtain ⟨s1, n1, p1⟩ := last
        dsimp only
        generalize power' _ _ _ _ = pw
        refine wpS_bind (wpS_mono (wpS_forRange
          (I := fun _ c st' => c = (none, ()) ∧ TB a₀ st' ∧ Runs (arrOf st') (pendingOf st').toList 0 lo ∧ (∀ j, lo ≤ j → K (arrOf st') j = K (arrOf st3) j))
          (Q := fun c st' => c = (none, ()) ∧ TB a₀ st' ∧ Runs (arrOf st') (pendingOf st').toList 0 lo ∧ (∀ j, lo ≤ j → K (arrOf st') j = K (arrOf st3) j)) ?_ (fun _ _ hh => hh) ⟨rfl, T3, hR3, fun _ _ => rfl⟩) ?_)
        · rintro y c st4 _ hy ⟨rfl, T4, hR4, hk4⟩
          refine wpS_bind (wpS_get ?_)
          by_cases hsz : (pendingOf st4).size > 1
          · rw [if_pos hsz, getElem?_pos (pendingOf st4) ((pendingOf st4).size - 2) (by omega)]
            dsimp only
            split
            · exact wpS_pure ⟨rfl, T4, hR4, hk4⟩
            · refine wpS_bind (wpS_mergeAtT T4 h0 (by omega) hle hR4 fun st5 T5 _ hR5 hk5 => ?_)
              simp only [Bool.not_true, Bool.false_eq_true, if_false]
              exact wpS_pure ⟨rfl, T5, hR5, fun j hj => (hk5 j hj).trans (hk4 j hj)⟩
          · rw [if_neg hsz]
            exact wpS_pure ⟨rfl, T4, hR4, hk4⟩
        · rintro c st4 ⟨rfl, T4, hR4, hk4⟩
          dsimp only
          refine wpS_bind (wpS_modify ?_)
          obtain ⟨st5, hst5⟩ : ∃ t, t = setPending st4 ((pendingOf st4).modify ((pendingOf st4).size - 1) fun x => (x.1, x.2.1, pw)) := ⟨_, rfl⟩
          rw [← hst5]
          have hR5 : Runs (arrOf st5) (pendingOf st5).toList 0 lo := by
            rw [hst5]; exact hR4.congrP (map_modify _ _)
          have T5 : TB a₀ st5 := by rw [hst5]; exact ⟨T4.perm, T4.kind, T4.failed⟩
          have hk5 : ∀ j, lo ≤ j → K (arrOf st5) j = K (arrOf st3) j := by rw [hst5]; exact hk4
          obtain ⟨T6, hR6⟩ := push st5 T5 hR5 _ hn1 (fun i j a1 a2 a3 => by rw [hk5 i a1, hk5 j (by omega)]; exact hs3 i j a1 a2 a3)
          exact wpS_bind (wpS_modify (wpS_pure ⟨_, rfl, T6, hR6, hn2, by omega⟩))
  case post =>
    rintro c st' ⟨rfl, T', hR⟩
    dsimp only
    have hsz := hR.le
    refine wpS_bind (wpS_mono (wpS_forRange
      (I := fun x c st' => c = (none, ()) ∧ TB a₀ st' ∧ Runs (arrOf st') (pendingOf st').toList 0 a₀.size ∧ ((pendingOf st').size ≤ 1 ∨ (pendingOf st').size + x ≤ a₀.size))
      (Q := fun c st' => c = (none, ()) ∧ TB a₀ st' ∧ Runs (arrOf st') (pendingOf st').toList 0 a₀.size ∧ (pendingOf st').size ≤ 1) ?_ ?_
      ⟨rfl, T', hR, .inr (by rw [Array.length_toList] at hsz; omega)⟩) ?_)
    · rintro x c st4 _ hx ⟨rfl, T4, hR4, hor⟩
      refine wpS_bind (wpS_get ?_)
      by_cases h1 : (pendingOf st4).size ≤ 1
      · rw [if_pos h1]; exact wpS_pure ⟨rfl, T4, hR4, h1⟩
      · rw [if_neg h1]
        refine wpS_bind (wpS_mergeAtT T4 h0 ?_ (Nat.le_refl _) hR4 fun st5 T5 hs5 hR5 _ => ?_)
        · exact ite_succ_lt (by omega) (by omega)
        · simp only [Bool.not_true, Bool.false_eq_true, if_false]
          exact wpS_pure ⟨rfl, T5, hR5, by omega⟩
    · rintro c st4 ⟨rfl, T4, hR4, hor⟩
      exact ⟨rfl, T4, hR4, by omega⟩
    · rintro c st4 ⟨rfl, T4, hR4, h1⟩
      refine wpS_pure (h st4 T4.perm T4.failed ?_)
      have hl : (pendingOf st4).toList.length ≤ 1 := by rw [Array.length_toList]; exact h1
      match hq : (pendingOf st4).toList, hl with
      | [], _ =>
        rw [hq] at hR4
        have : 0 = a₀.size := hR4
        omega
      | [(s1, n1, p1)], _ =>
        rw [hq] at hR4
        obtain ⟨r1, r2, r3, r4⟩ := hR4
        have r5 : 0 + n1 = a₀.size := r4
        rw [r5] at r3
        exact fun i j a1 a2 => r3 i j (Nat.zero_le _) a1 a2
end
end Mine

namespace Mine
open PySem PyProof PyProof.Rows
set_option maxRecDepth 100000

section
variable {prog : Program} {w : World} {A : Around} {E : Value → Shared → Prop} {s : Shared}

/-- list.sort of whole numbers, as many as may be -/
theorem sort_any {a : Addr} {vs : List Value} {ns : List Int} {n : Nat} {P : Fin → Shared → Prop} (ho : s.heap.get? a = some (seqObj "list" vs.toArray n))
    (hI : IntsAre vs ns) (hz : vs.length ≤ sizeLine)
    (h : ∀ (out : Array Value) (ns' : List Int), IntsAre out.toList ns' → ns'.Perm ns → ns'.Pairwise (· ≤ ·) → P (.done (.ret .none)) { s with heap := sortedHeap s.heap a vs out }) :
    wpAny (model prog w) A (Builtin.«list.sort» ⟨[.ref a], []⟩) P E s := by
  have hsz : vs.toArray.size = vs.length := by simp
  by_cases hsm : vs.length < 64
  · exact list_sort_tree ho hI hsm h
  obtain ⟨v₁, v₂, rest, rfl⟩ : ∃ v₁ v₂ rest, vs = v₁ :: v₂ :: rest := by
    match vs, hsm with
    | [], h2 => simp at h2
    | [_], h2 => simp at h2
    | v₁ :: v₂ :: rest, _ => exact ⟨v₁, v₂, rest, rfl⟩
  have ha : a < s.heap.objs.size := Heap.lt_size ho
  rw [list_sort_plain]
  refine wpAny_bind (listItems_at ho rfl ?_)
  refine wpAny_bind (listUpdate_at ho rfl ?_ (by rw [hsz]; exact hz) (by simp))
  obtain ⟨e1, ho1⟩ : ∃ e1, (s.heap.update a (Obj.mapSeq fun _ => #[])).get? a = some (seqObj "list" #[] e1) := ⟨_, get?_update_seq ho (fun _ => #[])⟩
  refine wpAny_bind (seqEpoch_at ho1 rfl ?_)
  refine wpAny_bind (wpAny_newTuple ?_ hz)
  refine wpAny_bind (wpAny_newList ?_)
  refine wpAny_holding ?_
  have ho6 : (((s.heap.update a (Obj.mapSeq fun _ => #[])).push (seqObj "tuple" (v₁ :: v₂ :: rest).toArray 0)).push (seqObj "list" #[] 0)).get? a = some (seqObj "list" #[] e1) := by
    rw [Heap.get?_push_ne _ _ _ (by rw [size_push', Heap.size_update]; exact Nat.ne_of_lt (Nat.lt_succ_of_lt ha)), Heap.get?_push_ne _ _ _ (by rw [Heap.size_update]; exact Nat.ne_of_lt ha)]
    exact ho1
  show wpAny (model prog w) A _ P E { s with heap := ((s.heap.update a (Obj.mapSeq fun _ => #[])).push (seqObj "tuple" (v₁ :: v₂ :: rest).toArray 0)).push (seqObj "list" #[] 0) }
  dsimp only
  have h2 : ¬ (v₁ :: v₂ :: rest).toArray.size < 2 := by simp
  rw [if_neg h2, if_neg h2, keyKind_ints hI]
  refine wpAny_bind (wpAny_pure ?_)
  refine wpAny_bind (wpAny_mono (wpS_sortRunsT (a₀ := pairsOf (v₁ :: v₂ :: rest)) (st := SortSt.mk' oneType' ((v₁ :: v₂ :: rest).toArray.zip (v₁ :: v₂ :: rest).toArray) #[] 7 none)
    (Q := fun _ st' => (arrOf st').Perm (pairsOf (v₁ :: v₂ :: rest)) ∧ failedOf st' = none ∧ SortedTo (arrOf st') (pairsOf (v₁ :: v₂ :: rest)).size)
    hI.intKeys ⟨Array.Perm.refl _, rfl, rfl⟩ rfl (by rw [pairsOf_size]; simp) fun st' a1 a2 a3 => ⟨a1, a2, a3⟩) ?_ fun _ _ e => e)
  rintro ⟨⟨⟩, st'⟩ s' ⟨rfl, hp, hf, hs⟩
  dsimp only
  refine wpAny_bind (seqEpoch_at ho6 rfl ?_)
  refine wpAny_bind (listUpdate_at ho6 rfl ?_ (by simp) (by
    refine Nat.le_trans (Nat.le_of_eq ((Array.size_map ..).trans (hp.size_eq.trans (pairsOf_size _)))) ?_
    exact Nat.le_succ_of_le hz))
  rw [hf]
  simp only [bne_self_eq_false, Bool.false_eq_true, if_false]
  obtain ⟨ns', a1, a2, a3⟩ := sorted_out hI hp hs
  exact wpAny_pure (h _ ns' a1 a2 a3)
end
end Mine

open PySem PyProof.Rows
set_option Elab.async false
namespace Mine

/-- the members of a set of columns, by its bits -/
noncomputable def keysOf (f : Nat) : List Nat := (List.range 6).filter fun k => f.testBit k
noncomputable def tabOf (f : Nat) (led : Bool) : SetTable :=
  { mask := if (keysOf f).length ≤ 4 then 7 else 31, place := (keysOf f).toArray, dummies := #[], finger := 0, led := led, moves := if (keysOf f).length ≤ 4 then 0 else 1, plain := true }
/-- the table with one more place, before it grows -/
noncomputable def tabPre (f k : Nat) (led : Bool) : SetTable := { tabOf f led with place := (keysOf (f ||| 2 ^ k)).toArray }
noncomputable def posOf (f k : Nat) : Nat := ((keysOf f).filter (· < k)).length

theorem free_ok : ∀ f < (64 : Nat), ∀ k < (6 : Nat), f.testBit k = false → ∀ led : Bool, (tabOf f led).freeSlot (Int.ofNat k) = some (k, false) := by decide +kernel
theorem put_ok : ∀ f < 64, ∀ k < 6, f.testBit k = false → ∀ led : Bool, (tabOf f led).put k = (tabPre f k led, posOf f k) := by decide +kernel
theorem keys_ins : ∀ f < 64, ∀ k < 6, f.testBit k = false → SetTable.insertAt (keysOf f).toArray (posOf f k) k = (keysOf (f ||| 2 ^ k)).toArray := by decide +kernel
theorem len_ins : ∀ f < 64, ∀ k < 6, f.testBit k = false → (keysOf (f ||| 2 ^ k)).length = (keysOf f).length + 1 := by decide +kernel
theorem fits_pre : ∀ f < 64, ∀ k < 6, f.testBit k = false → ∀ led : Bool, (tabPre f k led).fits ((keysOf f).length + 1) = true := by decide +kernel
theorem fits_tab : ∀ f < 64, ∀ led : Bool, (tabOf f led).fits (keysOf f).length = true := by decide +kernel
theorem full_no : ∀ f < 64, ∀ k < 6, f.testBit k = false → ∀ led : Bool, (tabPre f k led).tooFull = false → tabPre f k led = tabOf (f ||| 2 ^ k) led := by decide +kernel
theorem full_yes1 : ∀ f < (64 : Nat), ∀ k < (6 : Nat), f.testBit k = false → ∀ led : Bool, (tabPre f k led).tooFull = true →
    ((tabPre f k led).relaid ((keysOf (f ||| 2 ^ k)).map Int.ofNat).toArray (SetTable.grown ((keysOf f).length + 1))).map (·.1) = some (tabOf (f ||| 2 ^ k) led) := by decide +kernel
theorem full_yes2 : ∀ f < (64 : Nat), ∀ k < (6 : Nat), f.testBit k = false → ∀ led : Bool, (tabPre f k led).tooFull = true →
    (((tabPre f k led).relaid ((keysOf (f ||| 2 ^ k)).map Int.ofNat).toArray (SetTable.grown ((keysOf f).length + 1))).elim false fun x => x.2.toList == List.range ((keysOf f).length + 1)) = true := by decide +kernel
theorem full_yes (f : Nat) (hf : f < 64) (k : Nat) (hk : k < 6) (h : f.testBit k = false) (led : Bool) (ht : (tabPre f k led).tooFull = true) :
    (tabPre f k led).relaid ((keysOf (f ||| 2 ^ k)).map Int.ofNat).toArray (SetTable.grown ((keysOf f).length + 1)) = some (tabOf (f ||| 2 ^ k) led, (List.range ((keysOf f).length + 1)).toArray) := by
  have h1 := full_yes1 f hf k hk h led ht
  have h2 := full_yes2 f hf k hk h led ht
  generalize (tabPre f k led).relaid _ _ = r at h1 h2 ⊢
  match r, h1, h2 with
  | some (a, b), h1, h2 =>
    simp only [Option.map_some, Option.some.injEq] at h1
    have h3 : b.toList = List.range ((keysOf f).length + 1) := by simpa using h2
    rw [h1, ← h3]
theorem or_lt : ∀ f < 64, ∀ k < 6, f ||| 2 ^ k < 64 := by decide +kernel
theorem keys_has : ∀ f < 64, ∀ k < 6, (f.testBit k = true ↔ k ∈ keysOf f) := by decide +kernel
theorem keys_or : ∀ f < 64, ∀ k < 6, f.testBit k = true → f ||| 2 ^ k = f := by decide +kernel
theorem below_ok : ∀ f < 64, ∀ led : Bool, ∀ i < (keysOf f).length, SetTable.below (tabOf f led).place (if i = 0 then 0 else (keysOf f).getD (i - 1) 0 + 1) = i := by decide +kernel
theorem below_end : ∀ f < 64, ∀ led : Bool, SetTable.below (tabOf f led).place (if (keysOf f).length = 0 then 0 else (keysOf f).getD ((keysOf f).length - 1) 0 + 1) = (keysOf f).length := by decide +kernel
theorem covers_ok : ∀ f < 64, coversAll (List.range ((keysOf f).length + 1)).toArray ((keysOf f).length + 1) = true := by decide +kernel
end Mine

open PySem PyProof.Rows
set_option Elab.async false
set_option maxRecDepth 100000
namespace Mine

noncomputable def EsOk (f : Nat) (es : Array (Int × Value)) : Prop := es.toList.map (·.1) = (keysOf f).map Int.ofNat ∧ ∀ e ∈ es.toList, ∃ t, e.2 = .int e.1 t
noncomputable def SetIs (h : Heap) (a : Addr) (f : Nat) (led : Bool) : Prop := ∃ es ep, h.get? a = some ({ cls := .type "set", dict := none, data := .set es ep (tabOf f led) } : Obj) ∧ EsOk f es

theorem EsOk.size {f : Nat} {es : Array (Int × Value)} (h : EsOk f es) : es.size = (keysOf f).length := by
  have := congrArg List.length h.1
  simpa using this
theorem hash_small : ∀ k < (6 : Nat), hashInt (Int.ofNat k) = Int.ofNat k := by decide +kernel
theorem keys_small {f k : Nat} (h : k ∈ keysOf f) : k < 6 := by
  unfold keysOf at h
  exact List.mem_range.mp (List.mem_filter.mp h).1
theorem EsOk.elems {prog : Program} {w : World} {f : Nat} {es : Array (Int × Value)} (h : EsOk f es) : ElemsOf (intKind prog w) es.toList := by
  intro e he
  obtain ⟨t, et⟩ := h.2 e he
  have hm : e.1 ∈ es.toList.map (·.1) := List.mem_map_of_mem he
  rw [h.1] at hm
  obtain ⟨k, hk, ek⟩ := List.mem_map.mp hm
  refine ⟨⟨e.1, by rw [et]; exact intKind_is _ _ _ _, ?_⟩, by rw [et]; rfl⟩
  show e.1 = hashInt e.1
  rw [← ek, hash_small k (keys_small hk)]
theorem keys_le (f : Nat) : (keysOf f).length ≤ 6 := by
  unfold keysOf
  exact Nat.le_trans (List.length_filter_le _ _) (by simp)

theorem ins_map {α β : Type} (g : α → β) (xs : Array α) (p : Nat) (x : α) : (SetTable.insertAt xs p x).toList.map g = (SetTable.insertAt (xs.map g) p (g x)).toList := by
  unfold SetTable.insertAt
  simp [List.map_take, List.map_drop]
theorem ins_mem {α : Type} {xs : Array α} {p : Nat} {x y : α} (h : y ∈ (SetTable.insertAt xs p x).toList) : y ∈ xs.toList ∨ y = x := by
  unfold SetTable.insertAt at h
  simp only [Array.toList_append, Array.toList_push, List.mem_append, Array.toList_extract, List.mem_singleton] at h
  rcases h with (h | h) | h
  · left; exact List.mem_of_mem_take (i := p) (by simpa [List.extract] using h)
  · right; exact h
  · left; exact List.mem_of_mem_drop (List.mem_of_mem_take (by simpa [List.extract] using h))

theorem EsOk.ins {f k : Nat} {es : Array (Int × Value)} (h : EsOk f es) (hf : f < 64) (hk : k < 6) (hn : f.testBit k = false) (t : Tok) : EsOk (f ||| 2 ^ k) (SetTable.insertAt es (posOf f k) (Int.ofNat k, .int (Int.ofNat k) t)) := by
  refine ⟨?_, fun e he => ?_⟩
  · rw [ins_map]
    have h1 : es.map (·.1) = ((keysOf f).toArray.map Int.ofNat) := by
      apply Array.toList_inj.mp
      simpa using h.1
    rw [h1]
    have := congrArg (fun a : Array Nat => a.toList.map Int.ofNat) (keys_ins f hf k hk hn)
    rw [← ins_map Int.ofNat]
    simpa using this
  · rcases ins_mem he with he | rfl
    · exact h.2 e he
    · exact ⟨t, rfl⟩

theorem layNew_ok {f k : Nat} {es : Array (Int × Value)} (h : EsOk f es) (hf : f < 64) (hk : k < 6) (hn : f.testBit k = false) (led : Bool) (x : Value) :
    layNew (tabOf f led) es (Int.ofNat k) x = (SetTable.insertAt es (posOf f k) (Int.ofNat k, x), tabPre f k led, false, false) := by
  have hsz : (SetTable.insertAt es (posOf f k) (Int.ofNat k, x)).size = (keysOf f).length + 1 := by
    have e1 : ((SetTable.insertAt es (posOf f k) (Int.ofNat k, x)).toList.map (·.1)).length = (keysOf (f ||| 2 ^ k)).length := by
      rw [ins_map]
      have h1 : es.map (·.1) = ((keysOf f).toArray.map Int.ofNat) := by
        apply Array.toList_inj.mp
        simpa using h.1
      rw [h1, ← ins_map Int.ofNat, keys_ins f hf k hk hn]
      simp
    rw [len_ins f hf k hk hn] at e1
    simpa using e1
  unfold layNew
  rw [free_ok f hf k hk hn led]
  dsimp only
  rw [put_ok f hf k hk hn led]
  dsimp only
  have hfit := fits_pre f hf k hk hn led
  rw [hsz]
  unfold SetTable.orStandIn
  rw [hfit]
  rfl

theorem filterMap_range (es : Array (Int × Value)) : (List.range es.size).toArray.filterMap (es[·]?) = es := by
  apply Array.toList_inj.mp
  rw [Array.toList_filterMap]
  simp only []
  have : ∀ l : List (Int × Value), (List.range l.length).filterMap (l[·]?) = l := by
    intro l
    induction l with
    | nil => rfl
    | cons a r ih =>
      rw [List.length_cons, List.range_succ_eq_map, List.filterMap_cons, List.filterMap_map]
      simpa [Function.comp_def] using ih
  have := this es.toList
  simpa using this

theorem relay_ok {f k : Nat} {es : Array (Int × Value)} (hf : f < 64) (hk : k < 6) (hn : f.testBit k = false) (led : Bool) (h : EsOk (f ||| 2 ^ k) es) (ht : (tabPre f k led).tooFull = true) :
    relayAll (tabPre f k led) es (SetTable.grown es.size) = (es, tabOf (f ||| 2 ^ k) led, false) := by
  have hsz : es.size = (keysOf f).length + 1 := by rw [h.size, len_ins f hf k hk hn]
  have h1 : es.map (·.1) = ((keysOf (f ||| 2 ^ k)).map Int.ofNat).toArray := by
    apply Array.toList_inj.mp
    simpa using h.1
  unfold relayAll
  rw [h1, hsz, full_yes f hf k hk hn led ht]
  dsimp only
  rw [← hsz, filterMap_range, hsz, covers_ok f hf]
  have := fits_tab (f ||| 2 ^ k) (or_lt f hf k hk) led
  rw [len_ins f hf k hk hn] at this
  rw [this]
  rfl

section
variable {prog : Program} {w : World} {A : Around} {E : Value → Shared → Prop} {s : Shared}

theorem add_ok {a : Addr} {f k : Nat} {led : Bool} {t : Tok} {Q : Bool → Shared → Prop} (hS : SetIs s.heap a f led) (hf : f < 64) (hk : k < 6)
    (h : ∀ b h', Heap.SameBut a s.heap h' → SetIs h' a (f ||| 2 ^ k) led → Q b { s with heap := h' }) :
    wpAny (model prog w) A (setAddHashed a (.int (Int.ofNat k) t) (hashInt (Int.ofNat k))) Q E s := by
  obtain ⟨es, ep, ho, ok⟩ := hS
  have hfit : (tabOf f led).fits es.size = true := by rw [ok.size]; exact fits_tab f hf led
  have hb : es.size < scanBound := by rw [ok.size]; have := keys_le f; unfold scanBound; omega
  have hel : ElemsOf (intKind prog w) es.toList := ok.elems
  have hkey := intKind_is prog w (Int.ofNat k) t
  unfold setAddHashed setAddHashedIn
  refine wpAny_holding (wpAny_bind (wpAny_setState_of ho rfl hfit ?_))
  dsimp only
  rw [byScan_of (knd := intKind prog w) (x := .int (Int.ofNat k) t) rfl hb hel]
  simp only [↓reduceIte]
  unfold setAddByScan
  refine wpAny_bind ?_
  refine wpAny_bind (wpAny_rule ?_)
  refine wpAny_bind (wpAny_setScan_of (knd := intKind prog w) hkey ho rfl hfit hel ?_)
  cases hr : List.findIdx? (fun e => (intKind prog w).is (Int.ofNat k) e.2) es.toList with
  | some j =>
    dsimp only
    obtain ⟨hj, hpj, _⟩ := List.findIdx?_eq_some_iff_getElem.mp hr
    obtain ⟨t', et⟩ := ok.2 _ (List.getElem_mem hj)
    have e1 : es.toList[j].1 = Int.ofNat k := by
      rw [et] at hpj
      simpa [intKind, Value.isInt] using hpj
    have hin : Int.ofNat k ∈ (keysOf f).map Int.ofNat := by rw [← ok.1, ← e1]; exact List.mem_map_of_mem (List.getElem_mem hj)
    obtain ⟨k', hk', ek⟩ := List.mem_map.mp hin
    have : k' = k := Int.ofNat.inj ek
    subst this
    have hbit := (keys_has f hf k' hk).mpr hk'
    refine wpAny_pure (wpAny_pure ?_)
    have e : s = { s with heap := s.heap } := by cases s; rfl
    rw [e]
    exact h _ s.heap (Heap.SameBut.refl a s.heap) (by rw [keys_or f hf k' hk hbit]; exact ⟨es, ep, ho, ok⟩)
  | none =>
    dsimp only
    have hn : f.testBit k = false := by
      cases q : f.testBit k with
      | false => rfl
      | true =>
        have hin := (keys_has f hf k hk).mp q
        have hm : Int.ofNat k ∈ es.toList.map (·.1) := by rw [ok.1]; exact List.mem_map_of_mem hin
        obtain ⟨e, he, ee⟩ := List.mem_map.mp hm
        obtain ⟨t', et⟩ := ok.2 e he
        have := List.findIdx?_eq_none_iff.mp hr e he
        rw [et, ee, intKind_is] at this
        exact Bool.noConfusion this
    rw [hash_small k hk, layNew_ok ok hf hk hn led]
    dsimp only
    have ok1 := ok.ins hf hk hn t
    have hz1 := ok1.size
    have hle := keys_le (f ||| 2 ^ k)
    refine wpAny_bind (m := _) (wpAny_pure (a := ()) ?_)
    have hpl : (tabPre f k led).plain = true := rfl
    rw [hpl]
    simp only [↓reduceIte]
    refine wpAny_bind ?_
    rw [hashByValue_scannable 8 (x := .int (Int.ofNat k) t) rfl]
    refine wpAny_pure ?_
    simp only [plainKind, ↓reduceIte]
    refine wpAny_bind (wpAny_storeSet_of ho rfl ?_ (by rw [hz1, sizeLine_eq]; omega))
    have hg1 : (s.heap.update a (Obj.putSet (SetTable.insertAt es (posOf f k) (Int.ofNat k, .int (Int.ofNat k) t)) (tabPre f k led))).get? a = some ({ cls := .type "set", dict := none, data := .set (SetTable.insertAt es (posOf f k) (Int.ofNat k, .int (Int.ofNat k) t)) (ep + 1) (tabPre f k led) } : Obj) := by
      have := Heap.get?_update_self (Obj.putSet (SetTable.insertAt es (posOf f k) (Int.ofNat k, .int (Int.ofNat k) t)) (tabPre f k led)) ho (by rw [putSet_of _ _ rfl]; rfl)
      rw [putSet_of _ _ rfl] at this
      exact this
    have hsb1 := Heap.SameBut.update s.heap a (Obj.putSet (SetTable.insertAt es (posOf f k) (Int.ofNat k, .int (Int.ofNat k) t)) (tabPre f k led))
    cases ht : (tabPre f k led).tooFull with
    | false =>
      simp only [Bool.not_false, Bool.true_and, Bool.false_eq_true, ↓reduceIte]
      refine wpAny_pure (wpAny_pure ?_)
      exact h _ _ hsb1 ⟨_, _, by rw [hg1, full_no f hf k hk hn led ht], ok1⟩
    | true =>
      simp only [Bool.not_false, Bool.true_and, ↓reduceIte]
      rw [relay_ok hf hk hn led ok1 ht]
      dsimp only
      refine wpAny_bind (wpAny_pure (a := ()) ?_)
      refine wpAny_bind (wpAny_storeSet_of hg1 rfl ?_ (by rw [hz1, sizeLine_eq]; omega))
      refine wpAny_pure (wpAny_pure ?_)
      refine h _ _ (hsb1.trans (Heap.SameBut.update _ a _)) ⟨_, ep + 2, ?_, ok1⟩
      have := Heap.get?_update_self (Obj.putSet (SetTable.insertAt es (posOf f k) (Int.ofNat k, .int (Int.ofNat k) t)) (tabOf (f ||| 2 ^ k) led)) hg1 (by rw [putSet_of _ _ rfl]; rfl)
      rw [putSet_of _ _ rfl] at this
      exact this
end
end Mine

open PySem PyProof.Rows
set_option Elab.async false
set_option maxRecDepth 100000
namespace Mine

noncomputable def SetAt (h : Heap) (a : Addr) (f : Nat) (led : Bool) (es : Array (Int × Value)) (ep : Nat) : Prop := h.get? a = some ({ cls := .type "set", dict := none, data := .set es ep (tabOf f led) } : Obj) ∧ EsOk f es
noncomputable def ordOf (w : World) (a : Addr) (ep : Nat) (es : Array (Int × Value)) : Array (Int × Value) := if w.params.followText "set-order" then pickOrder (w.params.setOrder a ep) es else es
noncomputable def slotAt (b : Bool) (f i : Nat) : Nat := if b then 0 else if i = 0 then 0 else (keysOf f).getD (i - 1) 0 + 1
noncomputable def IsSetIter (h : Heap) (it a : Addr) (slot i n ep : Nat) : Prop := ∃ o, h.get? it = some o ∧ o.cls = .type "set_iterator" ∧ o.data = .fields #[.int slot 0, .int i 0, .ref a, .int n 0, .int ep 0]
theorem IsSetIter.typeIs {s : Shared} {it a slot i n ep} (x : IsSetIter s.heap it a slot i n ep) : s.TypeIs (.ref it) "set_iterator" := let ⟨o, ho, hc, _⟩ := x; ⟨o, ho, hc⟩

/-! ### the order drawn from the text is an order of all -/
theorem pickGo_perm {α : Type} (next : Nat → Nat) : ∀ (n k : Nat) (l : List α) (out : Array α), l.length = n → (pickOrder.go next n k l out).toList.Perm (out.toList ++ l)
  | 0, k, l, out, h => by
    have : l = [] := List.length_eq_zero_iff.mp h
    subst this
    simp [pickOrder.go]
  | n + 1, k, l, out, h => by
    have hlt : next k % l.length < l.length := Nat.mod_lt _ (by omega)
    simp only [pickOrder.go, List.getElem?_eq_getElem hlt]
    refine (pickGo_perm next n (k + 1) _ _ (by rw [List.length_eraseIdx_of_lt hlt]; omega)).trans ?_
    rw [Array.toList_push, List.append_assoc]
    refine List.Perm.append_left _ ?_
    rw [List.singleton_append]
    rw [List.eraseIdx_eq_take_drop_succ]
    have e : l = l.take (next k % l.length) ++ l[next k % l.length] :: l.drop (next k % l.length + 1) := by
      rw [← List.drop_eq_getElem_cons hlt, List.take_append_drop]
    conv => rhs; rw [e]
    exact List.perm_middle.symm
theorem ord_perm (w : World) (a : Addr) (ep : Nat) (es : Array (Int × Value)) : (ordOf w a ep es).toList.Perm es.toList := by
  unfold ordOf
  split
  · have := pickGo_perm (w.params.setOrder a ep) es.size 0 es.toList #[] (by simp)
    simpa [pickOrder] using this
  · exact List.Perm.refl _
theorem ord_size (w : World) (a : Addr) (ep : Nat) (es : Array (Int × Value)) : (ordOf w a ep es).size = es.size := by
  have := (ord_perm w a ep es).length_eq
  simpa using this

namespace SF
theorem slot_set_iterator_next : Slot "set_iterator" "__next__" "set_iterator.__next__" :=
  .of (owner := "set_iterator") (n := "__next__") (by rw [typeLookup_type, builtinLookup_eq_fast]; kernel_rfl) (by decide +kernel) (by decide +kernel) (by decide +kernel)
    (by first | exact .inl (by decide +kernel) | exact .inr (by decide +kernel)) (by rw [isSubtype_type]; kernel_rfl)
theorem entry_set_iterator_next : entryFor table "set_iterator.__next__" = some Builtin.«set_iterator.__next__» := entryFor_of_tree (by kernel_rfl)
theorem owner_set_iterator : Manifest.owners.lookup (String.ofList "set_iterator".toList.reverse.reverse) = some Manifest.sig_set_iterator := by kernel_rfl
theorem args_set_iterator_next (a : Value) : argsOk "set_iterator.__next__" ⟨[a], []⟩ := by
  unfold argsOk; rw [signature?_of (id := "set_iterator.__next__") (n := ['_', '_', 't', 'x', 'e', 'n', '_', '_']) (o := "set_iterator".toList.reverse) (by kernel_rfl) owner_set_iterator]; kernel_rfl
theorem slot_set_iterator_iter : Slot "set_iterator" "__iter__" "set_iterator.__iter__" :=
  .of (owner := "set_iterator") (n := "__iter__") (by rw [typeLookup_type, builtinLookup_eq_fast]; kernel_rfl) (by decide +kernel) (by decide +kernel) (by decide +kernel)
    (by first | exact .inl (by decide +kernel) | exact .inr (by decide +kernel)) (by rw [isSubtype_type]; kernel_rfl)
theorem args_set_iterator_iter (a : Value) : argsOk "set_iterator.__iter__" ⟨[a], []⟩ := by
  unfold argsOk; rw [signature?_of (id := "set_iterator.__iter__") (n := ['_', '_', 'r', 'e', 't', 'i', '_', '_']) (o := "set_iterator".toList.reverse) (by kernel_rfl) owner_set_iterator]; kernel_rfl
theorem entry_set_iterator_iter : entryFor table "set_iterator.__iter__" = some Builtin.«dict_keyiterator.__iter__» :=
  entryFor_alias (id' := "dict_keyiterator.__iter__") (by kernel_rfl) rfl (by decide +kernel) (by kernel_rfl)
theorem entry_set_iter : entryFor table "set.__iter__" = some Builtin.«frozenset.__iter__» :=
  entryFor_alias (id' := "frozenset.__iter__") (by kernel_rfl) rfl (by decide +kernel) (by kernel_rfl)
end SF

section
variable {prog : Program} {w : World} {A : Around} {E : Value → Shared → Prop} {s : Shared}

theorem state_ok {a : Addr} {f : Nat} {led : Bool} {es : Array (Int × Value)} {ep : Nat} {Q : (Array (Int × Value) × Nat × SetTable) → Shared → Prop} (hf : f < 64) (h : SetAt s.heap a f led es ep) (hQ : Q (es, ep, tabOf f led) s) : wpAny (model prog w) A (setState a) Q E s :=
  wpAny_setState_of h.1 rfl (by rw [h.2.size]; exact fits_tab f hf led) hQ
theorem byText_ok {Q : Bool → Shared → Prop} (h : Q (w.params.followText "set-order") s) : wpAny (model prog w) A setsByText Q E s := by
  unfold setsByText
  exact wpAny_bind (wpAny_askSetting (wpAny_pure h))
theorem walk_text {a : Addr} {f : Nat} {led : Bool} {es : Array (Int × Value)} {ep : Nat} {Q : Array (Int × Value) → Shared → Prop} (hf : f < 64) (h : SetAt s.heap a f led es ep) (hb : w.params.followText "set-order" = true) (hQ : Q (ordOf w a ep es) s) : wpAny (model prog w) A (setWalk a) Q E s := by
  unfold setWalk
  refine wpAny_bind (state_ok hf h ?_)
  dsimp only
  refine wpAny_bind (byText_ok ?_)
  rw [hb]
  simp only [↓reduceIte]
  refine wpAny_bind (wpAny_askSetting (wpAny_pure ?_))
  unfold ordOf at hQ
  rw [if_pos hb] at hQ
  exact hQ

theorem next_ok {a : Addr} {f : Nat} {es : Array (Int × Value)} {ep i : Nat} {Q : Option (Value × Nat) → Shared → Prop} (hf : f < 64) (h : SetAt s.heap a f (!w.params.followText "set-order") es ep) (hi : i ≤ (keysOf f).length)
    (hQ : Q ((ordOf w a ep es)[i]?.map fun e => (e.2, slotAt (w.params.followText "set-order") f (i + 1))) s) : wpAny (model prog w) A (setNext a (slotAt (w.params.followText "set-order") f i) i ep) Q E s := by
  unfold setNext
  refine wpAny_bind (state_ok hf h ?_)
  dsimp only
  refine wpAny_bind (byText_ok ?_)
  cases hb : w.params.followText "set-order" with
  | true =>
    rw [hb] at hQ
    simp only [↓reduceIte]
    rw [if_neg (by simp)]
    refine wpAny_bind (walk_text hf h hb ?_)
    refine wpAny_pure ?_
    simp only [slotAt, ↓reduceIte] at hQ ⊢
    exact hQ
  | false =>
    rw [hb] at hQ h
    simp only [Bool.false_eq_true, ↓reduceIte]
    refine wpAny_ite_split (fun hab => absurd (show false = true from hab) Bool.false_ne_true) (fun _ => ?_)
    refine wpAny_bind (wpAny_pure (a := ()) ?_)
    have ho : ordOf w a ep es = es := by unfold ordOf; rw [hb]; rfl
    rw [ho] at hQ
    have hsz := h.2.size
    have hpl : ∀ j : Nat, (tabOf f (!false)).place[j]? = (keysOf f)[j]? := fun j => by simp [tabOf]
    rcases Nat.lt_or_ge i (keysOf f).length with hlt | hge
    · have hbel : SetTable.below (tabOf f (!false)).place (slotAt false f i) = i := below_ok f hf _ i hlt
      rw [hbel, hpl]
      have e1 : es[i]? = some es[i] := Array.getElem?_eq_getElem (by omega)
      have e2 : (keysOf f)[i]? = some (keysOf f)[i] := List.getElem?_eq_getElem hlt
      rw [e1] at hQ ⊢
      rw [e2]
      refine wpAny_pure ?_
      have e3 : slotAt false f (i + 1) = (keysOf f)[i] + 1 := by
        simp [slotAt, List.getD_eq_getElem?_getD, e2]
      rw [e3] at hQ
      exact hQ
    · have hi' : i = (keysOf f).length := by omega
      have hbel : SetTable.below (tabOf f (!false)).place (slotAt false f i) = i := by rw [hi']; exact below_end f hf _
      rw [hbel]
      have e1 : es[i]? = none := Array.getElem?_eq_none (by omega)
      rw [e1] at hQ ⊢
      exact wpAny_pure hQ

theorem pyIter_set {a : Addr} {f : Nat} {led : Bool} {es : Array (Int × Value)} {ep : Nat} {Q : Value → Shared → Prop} (hf : f < 64) (h : SetAt s.heap a f led es ep)
    (hQ : Q (.ref s.heap.objs.size) { s with heap := s.heap.push { cls := .type "set_iterator", data := .fields #[.int 0 0, .int 0 0, .ref a, .int es.size 0, .int ep 0] } }) : wpAny (model prog w) A (pyIter (.ref a)) Q E s := by
  have hT : s.TypeIs (.ref a) "set" := ⟨_, h.1, rfl⟩
  refine wpAny_pyIter_slot hT F.slot_set_iter (wpAny_call_entry F.slot_set_iter hT SF.entry_set_iter ?_ (F.args_set_iter_1 _))
  unfold Builtin.«frozenset.__iter__»
  refine wpAny_bind (wpAny_pure (a := a) ?_)
  refine wpAny_bind ?_
  unfold Builtin.Frozenset.sizeOf setEntries
  refine wpAny_bind (wpAny_bind (state_ok hf h (wpAny_pure ?_)))
  refine wpAny_pure ?_
  refine wpAny_bind ?_
  unfold setDrawn
  refine wpAny_bind (state_ok hf h ?_)
  dsimp only
  refine wpAny_bind (byText_ok ?_)
  refine wpAny_pure ?_
  refine wpAny_ite_split (fun hab => absurd (show (!w.params.followText "set-order" && false) = true from hab) (by simp)) (fun _ => ?_)
  refine wpAny_bind (wpAny_pure (a := rawInt 0) ?_)
  unfold setEpoch
  refine wpAny_bind (wpAny_bind (state_ok hf h (wpAny_pure ?_)))
  unfold newFields
  refine wpAny_bind (wpAny_newObj_type (wpAny_pure ⟨_, rfl, "set_iterator", _, ⟨_, Heap.get?_push_size _ rfl, rfl⟩, SF.slot_set_iterator_next.lookup, ?_⟩))
  exact hQ
end
end Mine

open PySem PySem.W PyProof.Rows
set_option Elab.async false
set_option maxRecDepth 100000
namespace Mine
section
variable {prog : Program} {w : World} {A : Around} {E : Value → Shared → Prop} {s : Shared}

theorem pyNext_set_item {it a : Addr} {f : Nat} {es : Array (Int × Value)} {ep i : Nat} {e : Int × Value} {Q : Option Value → Shared → Prop} (hf : f < 64) (h : SetAt s.heap a f (!w.params.followText "set-order") es ep)
    (hit : IsSetIter s.heap it a (slotAt (w.params.followText "set-order") f i) i es.size ep) (he : (ordOf w a ep es)[i]? = some e)
    (hQ : ∀ h', IsSetIter h' it a (slotAt (w.params.followText "set-order") f (i + 1)) (i + 1) es.size ep → Heap.SameBut it s.heap h' → Q (some e.2) { s with heap := h' }) :
    wpAny (model prog w) A (pyNext (.ref it)) Q E s := by
  obtain ⟨o, ho, hc, hd⟩ := id hit
  have hi : i ≤ (keysOf f).length := by
    have := (Array.getElem?_eq_some_iff.mp he).1
    rw [ord_size, h.2.size] at this
    omega
  unfold pyNext
  refine wpAny_bind (wpAny_attempt (wpAny_callSpecial?_slot (name := Str.ofString "__next__") hit.typeIs SF.slot_set_iterator_next
    (wpAny_call_entry SF.slot_set_iterator_next hit.typeIs SF.entry_set_iterator_next ?_ (SF.args_set_iterator_next _))))
  unfold Builtin.«set_iterator.__next__»
  refine wpAny_bind (wpAny_pure (a := (Value.ref it, [])) ?_)
  refine wpAny_bind (wpAny_fieldsOf ho hd ?_)
  dsimp only
  unfold setEntries
  refine wpAny_bind (wpAny_bind (state_ok hf h (wpAny_pure ?_)))
  rw [if_neg (by simp)]
  simp only [Int.toNat_natCast]
  refine wpAny_bind (next_ok hf h hi ?_)
  rw [he]
  dsimp only [Option.map_some]
  refine wpAny_bind (wpAny_setField ho hd (by simp) ?_)
  have hd1 : (Obj.mapFields (·.setIfInBounds 0 (rawInt (slotAt (w.params.followText "set-order") f (i + 1) : Nat))) o).data = .fields #[.int (slotAt (w.params.followText "set-order") f (i + 1) : Nat) 0, .int i 0, .ref a, .int es.size 0, .int ep 0] := by
    rw [Obj.data_mapFields hd]; simp [rawInt]
  have ho1 := Heap.get?_update_self (Obj.mapFields (·.setIfInBounds 0 (rawInt (slotAt (w.params.followText "set-order") f (i + 1) : Nat)))) ho (Obj.isFreed_of_fields hd1)
  refine wpAny_bind (wpAny_setField ho1 hd1 (by simp) ?_)
  have hd2 : (Obj.mapFields (·.setIfInBounds 1 (rawInt ((i : Int) + 1))) (Obj.mapFields (·.setIfInBounds 0 (rawInt (slotAt (w.params.followText "set-order") f (i + 1) : Nat))) o)).data = .fields #[.int (slotAt (w.params.followText "set-order") f (i + 1) : Nat) 0, .int ((i + 1 : Nat) : Int) 0, .ref a, .int es.size 0, .int ep 0] := by
    rw [Obj.data_mapFields hd1]; simp [rawInt]
  have ho2 := Heap.get?_update_self (Obj.mapFields (·.setIfInBounds 1 (rawInt ((i : Int) + 1)))) ho1 (Obj.isFreed_of_fields hd2)
  show wpAny _ _ (ret e.2) _ _ _
  refine wpAny_pure ⟨_, rfl, wpAny_pure (hQ _ ⟨_, ho2, ?_, hd2⟩ ((Heap.SameBut.update ..).trans (Heap.SameBut.update ..)))⟩
  exact (Obj.cls_mapFields ..).trans ((Obj.cls_mapFields ..).trans hc)

theorem pyNext_set_end {it a : Addr} {f : Nat} {es : Array (Int × Value)} {ep : Nat} {Q : Option Value → Shared → Prop} (hh : A.handled = none) (hf : f < 64) (h : SetAt s.heap a f (!w.params.followText "set-order") es ep)
    (hit : IsSetIter s.heap it a (slotAt (w.params.followText "set-order") f es.size) es.size es.size ep)
    (hQ : ∀ h', Heap.ExtBut it s.heap h' → Q none { s with heap := h' }) :
    wpAny (model prog w) A (pyNext (.ref it)) Q E s := by
  obtain ⟨o, ho, hc, hd⟩ := id hit
  unfold pyNext
  refine wpAny_bind (wpAny_attempt (wpAny_callSpecial?_slot (name := Str.ofString "__next__") hit.typeIs SF.slot_set_iterator_next
    (wpAny_call_entry SF.slot_set_iterator_next hit.typeIs SF.entry_set_iterator_next ?_ (SF.args_set_iterator_next _))))
  unfold Builtin.«set_iterator.__next__»
  refine wpAny_bind (wpAny_pure (a := (Value.ref it, [])) ?_)
  refine wpAny_bind (wpAny_fieldsOf ho hd ?_)
  dsimp only
  unfold setEntries
  refine wpAny_bind (wpAny_bind (state_ok hf h (wpAny_pure ?_)))
  rw [if_neg (by simp)]
  simp only [Int.toNat_natCast]
  refine wpAny_bind (next_ok hf h (by rw [h.2.size]; exact Nat.le_refl _) ?_)
  rw [Array.getElem?_eq_none (by rw [ord_size]; exact Nat.le_refl _)]
  dsimp only [Option.map_none]
  refine wpAny_bind (wpAny_setField ho hd (by simp) ?_)
  show wpAny _ _ (newExc (.type "StopIteration") [] >>= _) _ _ _
  refine wpAny_bind ?_
  simp only [newExc, newTuple]
  refine wpAny_bind (wpAny_newObj_type ?_ (by size_fits))
  refine wpAny_bind (m := firstArgMember _ _) (wpAny_of_eq (a := Value.none) (by first | rfl | (simp only [firstArgMember]; rfl)) ?_)
  refine wpAny_newObj_type ?_ (by size_fits)
  simp only [raiseNew]
  refine wpAny_bind (wpAny_handled ?_)
  rw [show A.in1.handled = none from hh]
  refine wpAny_bind (wpAny_pure (wpAny_throw ?_))
  refine wpAny_bind (wpAny_isInstance (T := "StopIteration") (b := true) ⟨_, Heap.get?_push_size _ rfl, rfl⟩ isSubtype_stop ?_)
  exact wpAny_pure (hQ _ (((Heap.SameBut.update ..).extBut.push _).push _))

theorem pyIter_setiter {it a : Addr} {slot i n ep : Nat} {Q : Value → Shared → Prop} (hit : IsSetIter s.heap it a slot i n ep) (h : Q (.ref it) s) : wpAny (model prog w) A (pyIter (.ref it)) Q E s := by
  refine wpAny_pyIter_slot hit.typeIs SF.slot_set_iterator_iter (wpAny_call_entry SF.slot_set_iterator_iter hit.typeIs SF.entry_set_iterator_iter ?_ (SF.args_set_iterator_iter _))
  show wpAny _ _ (ret (.ref it)) _ _ s
  exact wpAny_pure ⟨_, rfl, "set_iterator", _, hit.typeIs, SF.slot_set_iterator_next.lookup, h⟩

theorem walks_set (hh : A.handled = none) (I a : Addr) (hne : a ≠ I) {f : Nat} (hf : f < 64) (es : Array (Int × Value)) (ep : Nat) :
    Walks prog w A I [I, a] [I] es.size (fun i v => ∃ e, (ordOf w a ep es)[i]? = some e ∧ v = e.2) (fun i h => IsSetIter h I a (slotAt (w.params.followText "set-order") f i) i es.size ep ∧ SetAt h a f (!w.params.followText "set-order") es ep) where
  sub := fun b hb => by simp at hb; simp [hb]
  frame := fun _ _ _ st hk => ⟨let ⟨o, ho, r⟩ := st.1; ⟨o, hk I (by simp) o ho, r⟩, hk a (by simp) _ st.2.1, st.2.2⟩
  item := fun i s Q E hi st hQ => by
    obtain ⟨e, he⟩ : ∃ e, (ordOf w a ep es)[i]? = some e := ⟨_, Array.getElem?_eq_getElem (by rw [ord_size]; exact hi)⟩
    refine pyNext_set_item hf st.2 st.1 he fun h' hit' hs' => ?_
    exact hQ _ h' s.toks ⟨_, he, rfl⟩ ⟨hit', hs'.extBut a _ hne st.2.1, st.2.2⟩ fun b o hb e => hs'.extBut b o (fun h => hb (by simp [h])) e
  done := fun s Q E st hQ => pyNext_set_end hh hf st.2 st.1 fun h' he' => hQ h' s.toks fun b o hb e => he' b o (fun h => hb (by simp [h])) e
  self := fun _ _ _ _ st hQ => pyIter_setiter st.1 hQ

theorem hint_set {r : Addr} {Q : Bool → Shared → Prop} (hT : s.TypeIs (.ref r) "set") (h : Q false s) : wpAny (model prog w) A (Builtin.List.listLengthHint (.ref r)) Q E s := by
  unfold Builtin.List.listLengthHint
  refine wpAny_bind (wpAny_specialOf hT F.slot_set_len.lookup ?_)
  generalize hid : ("set.__len__" : String) = id0
  wp_delta
  rw [show splitId id0 = some ("set", "__len__") from by subst hid; decide +kernel]
  subst hid
  refine wpAny_bind (wpAny_isInstance (T := "set") (b := true) hT (by rw [isSubtype_type]; kernel_rfl) ?_)
  refine wpAny_ite_split (fun hab => absurd hab (by decide)) (fun _ => ?_)
  refine wpAny_ite_split (fun _ => ?_) (fun hab => absurd (by decide +kernel) hab)
  refine wpAny_bind (wpAny_typeOf hT ?_)
  exact wpAny_pure h

theorem src_set {a : Addr} {f : Nat} (hf : f < 64) (es : Array (Int × Value)) (ep : Nat) :
    KdlSrc prog w "set" a a es.size (fun i v => ∃ e, (ordOf w a ep es)[i]? = some e ∧ v = e.2) (fun h => SetAt h a f (!w.params.followText "set-order") es ep) where
  type := fun _ hm => ⟨_, hm.1, rfl⟩
  there := fun _ hm => ⟨Heap.lt_size hm.1, Heap.lt_size hm.1⟩
  keep := fun _ _ hm hk => ⟨hk a (.inl rfl) _ hm.1, hm.2⟩
  notList := by decide
  notTuple := by decide
  hint := fun _ _ _ _ hm hq => hint_set ⟨_, hm.1, rfl⟩ hq
  iter := fun _ s hh hm => ⟨_, _, (fun _ _ hq => pyIter_set hf hm hq), walks_set hh _ a (Nat.ne_of_lt (Heap.lt_size hm.1)) hf es ep, ⟨⟨_, Heap.get?_push_size _ rfl, rfl, by simp [slotAt]⟩, Heap.get?_push_of_some _ hm.1, hm.2⟩⟩
end
end Mine

open PySem PySem.W PyProof.Rows
set_option Elab.async false
set_option maxRecDepth 100000
namespace Mine

noncomputable def bitsOf (ns : List Nat) : Nat := ns.foldl (fun f k => f ||| 2 ^ k) 0
theorem bitsGo_lt : ∀ (ns : List Nat) (f : Nat), f < 64 → (∀ k ∈ ns, k < 6) → ns.foldl (fun f k => f ||| 2 ^ k) f < 64
  | [], _, h, _ => h
  | k :: r, f, h, h6 => bitsGo_lt r _ (or_lt f h k (h6 k List.mem_cons_self)) fun j hj => h6 j (List.mem_cons_of_mem _ hj)
theorem bits_lt {ns : List Nat} (h6 : ∀ k ∈ ns, k < 6) : bitsOf ns < 64 := bitsGo_lt ns 0 (by decide) h6
theorem bits_take {ns : List Nat} {i : Nat} (h : i < ns.length) : bitsOf (ns.take (i + 1)) = bitsOf (ns.take i) ||| 2 ^ (ns.getD i 0) := by
  unfold bitsOf
  rw [List.take_succ_eq_append_getElem h, List.foldl_append]
  simp [List.getD_eq_getElem?_getD, h]

section
variable {prog : Program} {w : World} {A : Around} {R : Result → Shared → Prop} {I : Addr} {fp wr : List Addr} {G : Array GenState → Array GenState → Prop} {n : Nat} {P : Nat → Value → Prop} {St : Nat → Shared → Prop}
theorem upd_loop (W : WalksS prog w A.in1 I fp wr G n P St) (S : Addr) (hSf : S ∉ fp) (led : Bool) (ns : List Nat) (hn : ns.length = n) (h6 : ∀ k ∈ ns, k < 6) (hval : ∀ i v, P i v → ∃ t, v = .int (Int.ofNat (ns.getD i 0)) t) :
    ∀ (k i : Nat) (s : Shared), n - i = k → i ≤ n → St i s → SetIs s.heap S (bitsOf (ns.take i)) led →
      (∀ s', Moved (S :: wr) G s s' → SetIs s'.heap S (bitsOf ns) led → R (.ok (.ret .none)) s') →
      codeAny (model prog w) A (.builtin "set.update.loop" ⟨[.ref S, .ref I], []⟩) R s := by
  have hSw : S ∉ wr := fun h => hSf (W.sub _ h)
  have hsub : ∀ b ∈ wr, b ∈ S :: wr := fun b hb => List.mem_cons_of_mem _ hb
  intro k
  induction k with
  | zero =>
    intro i s hk hi hst hS hR
    have hin : i = n := by omega
    subst hin
    refine codeAny_builtin F.entry_set_update_loop ?_
    rw [Around.under_plainId F.plain_set_update_loop _]
    show wpAny _ A.in1 (pyNext (.ref I) >>= _) _ _ s
    refine wpAny_bind (W.done s _ _ hst fun s' hm => ?_)
    show wpAny _ A.in1 (ret Value.none) _ _ s'
    refine wpAny_pure (hR s' (hm.mono hsub) ?_)
    obtain ⟨es, ep, ho, ok⟩ := hS
    rw [List.take_of_length_le (by omega)] at ho ok
    exact ⟨es, ep, hm.heap S _ hSw ho, ok⟩
  | succ k ih =>
    intro i s hk hi hst hS hR
    have hlt : i < n := by omega
    refine codeAny_builtin F.entry_set_update_loop ?_
    rw [Around.under_plainId F.plain_set_update_loop _]
    show wpAny _ A.in1 (pyNext (.ref I) >>= _) _ _ s
    refine wpAny_bind (W.item i s _ _ hlt hst fun v s' hP hst' hm => ?_)
    obtain ⟨t, rfl⟩ := hval i v hP
    have hS' : SetIs s'.heap S (bitsOf (ns.take i)) led := by
      obtain ⟨es, ep, ho, ok⟩ := hS
      exact ⟨es, ep, hm.heap S _ hSw ho, ok⟩
    have hk6 : ns.getD i 0 < 6 := by
      rw [List.getD_eq_getElem?_getD, List.getElem?_eq_getElem (by omega)]
      exact h6 _ (List.getElem_mem _)
    show wpAny _ A.in1 (holding [Value.int (Int.ofNat (ns.getD i 0)) t] (setAdd S (.int (Int.ofNat (ns.getD i 0)) t)) >>= _) _ _ s'
    refine wpAny_bind (wpAny_holding ?_)
    unfold setAdd
    refine wpAny_holding ?_
    refine wpAny_bind ((intKind prog w).pyHash (k := Int.ofNat (ns.getD i 0)) (intKind_is _ _ _ _) ?_)
    refine add_ok (s := { s' with toks := s'.toks + 1 }) hS' (bits_lt fun k hk => h6 k (List.mem_of_mem_take hk)) hk6 fun b h' hsb hS2 => ?_
    rw [← bits_take (by omega)] at hS2
    refine wpAny_pure ⟨plainId_quiet F.plain_set_update_loop _, ih (i + 1) _ (by omega) hlt (W.frame _ s' _ _ hst' (Nat.le_succ _) fun b hb o e => ?_) hS2 fun s'' hm'' hS'' => ?_⟩
    · rw [hsb.2 b (fun h : b = S => hSf (by rw [← h]; exact hb))]; exact e
    · refine hR s'' (Moved.trans W.gtrans ((hm.mono hsub).then_heap (Nat.le_succ _) fun b o hb e => ?_) hm'') hS''
      rw [hsb.2 b (fun h : b = S => hb (by rw [h]; exact List.mem_cons_self))]; exact e
end

section
variable {prog : Program} {w : World} {A : Around} {E : Value → Shared → Prop} {s : Shared}
theorem set_new_1 (a : Value) {Q₁ : Value → Shared → Prop}
    (h : Q₁ (.ref s.heap.objs.size) { s with heap := s.heap.push { cls := .type "set", dict := none, data := .set #[] 0 (.fresh 0 0 (!w.params.followText "set-order")) } }) :
    codeAny (model prog w) A (.call (.builtin "set.__new__") ⟨[.type "set", a], []⟩) (wants Q₁ E) s := by
  refine codeAny_of_tree ?_
  show wpAny _ A.in1 (do checkBuiltinCall "set.__new__" ⟨[.type "set", a], []⟩; again (.builtin "set.__new__" ⟨[.type "set", a], []⟩)) _ _ s
  refine wpAny_bind (wpAny_of_eq (F.newCall_set_1 a) (wpAny_pure ⟨plainId_quiet F.plain_set_new _, codeAny_builtin F.entry_set_new ?_⟩))
  rw [Around.under_plainId F.plain_set_new _]
  unfold Builtin.«set.__new__» Builtin.Frozenset.newClass
  have hsub := sub_set_self
  obtain ⟨hp, g, d, tk, os⟩ := s
  dsimp only
  wp_walk
  refine wpAny_askSetting (wpAny_pure ?_)
  dsimp only
  simp only [newObj]
  refine wpAny_bind (wpAny_alloc (wpAny_pure ?_))
  exact wpAny_pure h

theorem fresh_tab (led : Bool) : SetTable.fresh 0 0 led = tabOf 0 led := by cases led <;> decide +kernel

set_option maxHeartbeats 3200000 in
theorem call_set {l : Addr} {items : Array Value} {ns : List Nat} {Q : Value → Shared → Prop}
    (hh : A.handled = none) (hl : s.heap.IsList l items) (hi : IntsAre items.toList (ns.map Int.ofNat)) (h6 : ∀ k ∈ ns, k < 6)
    (h : ∀ (h' : Heap) (tk : Nat), SetIs h' s.heap.objs.size (bitsOf ns) (!w.params.followText "set-order") →
      (∀ b o, b < s.heap.objs.size → s.heap.get? b = some o → h'.get? b = some o) → Q (.ref s.heap.objs.size) { s with heap := h', toks := tk }) :
    wpAny (model prog w) A (call (.type "set") [.ref l]) Q E s := by
  obtain ⟨c, tl, hmro⟩ := F.called_set.mro
  have hmade := F.called_set.made
  have hsub := F.called_set.sub
  have hlen : ns.length = items.size := by
    have := IntsAre.length hi
    simpa using this.symm
  refine wpAny_call (codeAny_of_tree ?_)
  show wpAny _ _ (callAny (.type "set") _) _ _ _
  refine wpAny_pure ⟨Code.quiet_builtin _ (by decide +kernel), codeAny_builtin F.entry_type_call ?_⟩
  rw [Around.under_plain (weight_type_call_type "set" [.ref l] []) rfl]
  have h1 := F.called_set.notType
  have h2 := F.called_set.canCreate
  have hct := F.typeCall_set_1 (.ref l)
  repeat (any_goals (first | assumption | wp_step))
  generalize hled : (!w.params.followText "set-order") = led at h
  refine codeAny_mono (set_new_1 (.ref l) (E := E) (Q₁ := fun obj s₁ => obj = .ref s.heap.objs.size ∧ s₁ = { s with heap := s.heap.push { cls := .type "set", dict := none, data := .set #[] 0 (.fresh 0 0 led) } }) ⟨rfl, by rw [hled]⟩) fun r s₁ hr => ?_
  cases r with
  | error e => exact hr
  | ok fl =>
    cases fl with
    | ret obj =>
      obtain ⟨rfl, rfl⟩ := hr
      have hS : (s.heap.push { cls := .type "set", dict := none, data := .set #[] 0 (.fresh 0 0 led) }).get? s.heap.objs.size = some { cls := .type "set", dict := none, data := .set #[] 0 (.fresh 0 0 led) } := Heap.get?_push_size _ rfl
      have hT : Shared.TypeIs { s with heap := s.heap.push { cls := .type "set", dict := none, data := .set #[] 0 (.fresh 0 0 led) } } (.ref s.heap.objs.size) "set" := ⟨_, hS, rfl⟩
      have hli := F.called_set.init.lookup
      have hbi := F.called_set.init.bind (.ref s.heap.objs.size)
      repeat (any_goals (first | assumption | wp_step))
      refine codeAny_mono (codeAny_call_builtin (R := wants (fun r s₂ => r = .none ∧ ∃ h' tk, s₂ = { s with heap := h', toks := tk } ∧
          SetIs h' s.heap.objs.size (bitsOf ns) led ∧
          (∀ b o, b < s.heap.objs.size → s.heap.get? b = some o → h'.get? b = some o)) E) F.called_set.init.plain F.entry_set_init (check_set_init_1 hT ?_)) fun r₂ s₂ hr₂ => ?_
      · obtain ⟨ol, hol, hcl, nl, hdl⟩ := hl
        obtain ⟨ocls, odict, odata, oslots⟩ := ol
        simp only at hcl hdl
        subst hcl; subst hdl
        have hol' : (s.heap.push { cls := .type "set", dict := none, data := .set #[] 0 (.fresh 0 0 led) }).get? l = some { cls := .type "list", dict := odict, data := .seq items nl, slots := oslots } := Heap.get?_push_of_some _ hol
        have hsls := F.sub_list_set
        have hslf := F.sub_list_frozenset
        have hne : (Value.type "list" == Value.type "dict") = false := by decide
        have hl1 : (s.heap.push { cls := .type "set", dict := none, data := .set #[] 0 (.fresh 0 0 led) }).IsList l items := ⟨_, hol', rfl, nl, rfl⟩
        unfold Builtin.«set.__init__» noKeywords Builtin.Frozenset.updateFrom
        generalize hPI : pyIter = PI
        wp_walk
        subst hPI
        refine wpAny_pyIter_list hl1 ?_
        refine wpAny_bind (wpAny_runValue ?_)
        have hlS : l < s.heap.objs.size := Heap.lt_size hol
        have hh3 : A.in1.in1.in1.handled = none := by simp [hh]
        have hneI : l ≠ (s.heap.push { cls := .type "set", dict := none, data := .set #[] 0 (.fresh 0 0 led) }).objs.size := by
          rw [Heap.size_push]; exact Nat.ne_of_lt (Nat.lt_succ_of_lt hlS)
        have hSf : s.heap.objs.size ∉ [(s.heap.push { cls := .type "set", dict := none, data := .set #[] 0 (.fresh 0 0 led) }).objs.size, l] := by
          rw [Heap.size_push]; simp only [List.mem_cons, List.not_mem_nil, or_false, not_or]
          exact ⟨Nat.ne_of_lt (Nat.lt_succ_self _), Nat.ne_of_gt hlS⟩
        have hval : ∀ (i : Nat) (v : Value), items[i]? = some v → ∃ t, v = .int (Int.ofNat (ns.getD i 0)) t := fun i v hv => by
          obtain ⟨t, e⟩ := IntsAre.int_at hi i v (by rw [Array.getElem?_toList]; exact hv)
          have hlt := (Array.getElem?_eq_some_iff.mp hv).1
          refine ⟨t, ?_⟩
          rw [e]
          congr 1
          rw [List.getD_eq_getElem?_getD, List.getD_eq_getElem?_getD, List.getElem?_map, List.getElem?_eq_getElem (by omega)]
          rfl
        refine upd_loop ((Walks.list hh3 _ l hneI items).toS) s.heap.objs.size
          hSf led ns hlen h6 hval (items.size - 0) 0 _ (by omega) (Nat.zero_le _)
          ⟨⟨_, Heap.get?_push_size _ rfl, rfl, rfl⟩, (hl1.push _)⟩ ?hS0 ?hR
        case hS0 =>
          have hget : ((s.heap.push { cls := .type "set", dict := none, data := .set #[] 0 (.fresh 0 0 led) }).push { cls := .type "list_iterator", data := .fields #[.ref l, .int 0 0] }).get? s.heap.objs.size
              = some { cls := .type "set", dict := none, data := .set #[] 0 (.fresh 0 0 led) } := Heap.get?_push_of_some _ hS
          rw [fresh_tab] at hget
          exact ⟨#[], 0, hget, by rw [List.take_zero]; decide, fun e he => by simp at he⟩
        case hR =>
          intro s' hm hS'
          obtain ⟨h', g', d', tk', os'⟩ := s'
          have eg : g' = s.gens := hm.gens
          have ed : d' = s.drawn := hm.drawn
          have eo : os' = s.os := hm.os
          subst eg; subst ed; subst eo
          show wpAny _ _ _ _ _ _
          refine wpAny_pure ?_
          show wpAny _ _ (ret Value.none) _ _ _
          refine wpAny_pure ⟨rfl, h', tk', rfl, hS', fun b o hb e => ?_⟩
          have hb1 : b ≠ s.heap.objs.size := Nat.ne_of_lt hb
          have hb2 : b ≠ (s.heap.push { cls := .type "set", dict := none, data := .set #[] 0 (.fresh 0 0 led) }).objs.size := by
            rw [Heap.size_push]; exact Nat.ne_of_lt (Nat.lt_succ_of_lt hb)
          exact hm.heap b o (by simp only [List.mem_cons, List.not_mem_nil, or_false, not_or]; exact ⟨hb1, hb2⟩) (Heap.get?_push_of_some _ (Heap.get?_push_of_some _ e))
      · cases r₂ with
        | error e => exact hr₂
        | ok fl₂ =>
          cases fl₂ with
          | ret r =>
            obtain ⟨rfl, h', tk, rfl, hS', hk'⟩ := hr₂
            repeat (any_goals (first | assumption | wp_step))
            exact h _ _ hS' hk'
          | _ => exact hr₂.elim
    | _ => exact hr.elim
end
end Mine

open PySem PySem.W PyProof.Rows
set_option Elab.async false
set_option maxRecDepth 100000
namespace Mine

theorem asc_unique {l m : List Int} (p : l.Perm m) (h1 : l.Pairwise (· ≤ ·)) (h2 : m.Pairwise (· ≤ ·)) : l = m :=
  List.Perm.eq_of_pairwise (fun a b _ _ h h' => Int.le_antisymm h h') h1 h2 p
theorem keys_asc (f : Nat) : ((keysOf f).map Int.ofNat).Pairwise (· ≤ ·) := by
  unfold keysOf
  rw [List.pairwise_map]
  exact ((List.pairwise_lt_range).filter _).imp fun h => by simp only [Int.ofNat_eq_natCast]; omega

theorem ints_of_perm : ∀ {l m : List (Int × Value)}, l.Perm m → (∀ e ∈ m, ∃ t, e.2 = .int e.1 t) → IntsAre (l.map (·.2)) (l.map (·.1))
  | l, m, p, h => by
    have h' : ∀ e ∈ l, ∃ t, e.2 = .int e.1 t := fun e he => h e (p.mem_iff.mp he)
    clear h p
    induction l with
    | nil => exact .nil
    | cons e r ih =>
      obtain ⟨t, et⟩ := h' e List.mem_cons_self
      rw [List.map_cons, List.map_cons, et]
      exact .cons _ t (ih fun x hx => h' x (List.mem_cons_of_mem _ hx))

section
variable {prog : Program} {w : World} {A : Around} {E : Value → Shared → Prop} {s : Shared}
theorem sorted_set {a : Addr} {f : Nat} {Q : Value → Shared → Prop} (hf : f < 64) (hS : SetIs s.heap a f (!w.params.followText "set-order")) (hh : A.handled = none)
    (hQ : ∀ D h' tk out, h'.IsList D out → s.heap.get? D = none → IntsAre out.toList ((keysOf f).map Int.ofNat) → (∀ b o, s.heap.get? b = some o → h'.get? b = some o) → Q (.ref D) { s with heap := h', toks := tk }) :
    wpAny (model prog w) A (call (.builtin "sorted") [.ref a]) Q E s := by
  obtain ⟨es, ep, ho, ok⟩ := hS
  have hsz := ok.size
  have h6 := keys_le f
  refine Calls.call_function_entry kind_sorted plain_sorted entry_sorted (args_sorted1 _) ?_
  unfold Builtin.«sorted»
  refine wpAny_bind (m := checkCount "sorted" 1 1 _) (wpAny_pure ?_)
  refine wpAny_bind (kdu_collect (A := A.in1) (src_set hf es ep) hh ⟨ho, ok⟩ (by rw [sizeLine_eq]; omega) fun h' tk acc hk hacc => ?_)
  have hl : acc.toList.length = es.size := by rw [Array.length_toList]; exact hacc.1
  refine wpAny_bind (wpAny_newList ?_ (by rw [hl, sizeLine_eq]; omega))
  have hv : acc.toList = (ordOf w a ep es).toList.map (·.2) := by
    apply List.ext_getElem?
    intro i
    rcases Nat.lt_or_ge i es.size with hi | hi
    · have hi' : i < acc.size := by rw [hacc.1]; exact hi
      have e1 : acc[i]? = some acc[i] := Array.getElem?_eq_getElem hi'
      obtain ⟨e, he, ev⟩ := hacc.2 i _ e1
      rw [Array.getElem?_toList, e1, List.getElem?_map, Array.getElem?_toList, he, ev]; rfl
    · rw [List.getElem?_eq_none (by rw [hl]; exact hi), List.getElem?_eq_none (by rw [List.length_map, Array.length_toList, ord_size]; exact hi)]
  have hI := ints_of_perm (ord_perm w a ep es) ok.2
  rw [← hv] at hI
  have hoL : (h'.push (seqObj "list" acc.toList.toArray 0)).get? h'.objs.size = some (seqObj "list" acc.toList.toArray 0) := Heap.get?_push_size _ rfl
  refine wpAny_bind (wpAny_holding (wpAny_call_entry slot_list_sort ⟨_, hoL, rfl⟩ entry_list_sort (list_sort_tree hoL hI (by rw [hl]; omega) fun out ns' a1 a2 a3 => ⟨_, rfl, ?_⟩) (args_list_sort _)))
  have hD : s.heap.get? h'.objs.size = none := by
    cases e : s.heap.get? h'.objs.size with
    | none => rfl
    | some o => exact absurd (Heap.lt_size (hk _ _ e)) (Nat.lt_irrefl _)
  have hns : ns' = (keysOf f).map Int.ofNat := by
    refine asc_unique (a2.trans ?_) a3 (keys_asc f)
    rw [← ok.1]
    exact (ord_perm w a ep es).map _
  subst hns
  refine wpAny_pure ⟨_, rfl, hQ h'.objs.size _ tk out ?_ hD a1 fun b o e => ?_⟩
  · obtain ⟨e, he⟩ := sortedHeap_at (vs := acc.toList) (out := out) hoL
    exact ⟨_, he, rfl, _, rfl⟩
  · have hb : b < h'.objs.size := Heap.lt_size (hk b o e)
    have := sortedHeap_old (h := h'.push (seqObj "list" acc.toList.toArray 0)) (a := h'.objs.size) (vs := acc.toList) (out := out) (Nat.ne_of_lt hb) (by rw [Heap.size_push]; exact Nat.lt_succ_of_lt hb)
    exact this.trans (Heap.get?_push_of_some _ (hk b o e))
end
end Mine

open PySem PySem.W PyProof.Rows
set_option Elab.async false
set_option maxRecDepth 100000
namespace Mine
section
variable {prog : Program} {w : World} {A : Around} {E : Value → Shared → Prop} {s : Shared} {R : Result → Shared → Prop}
theorem cmp_Gt {a b : Int} {t u : Tok} {Q : Value → Shared → Prop} (h : Q (.bool (decide (a > b))) s) : wpAny (model prog w) A (richCompare .Gt (.int a t) (.int b u)) Q E s :=
  CmpOf.ints_gt (P := fun i v => v = if i = 0 then .int a t else .int b u) (fun i => if i = 0 then a else b) (fun i v e => by by_cases q : i = 0 <;> simp_all) 0 1 _ _ s Q E rfl rfl h
theorem cmp_Lt {a b : Int} {t u : Tok} {Q : Value → Shared → Prop} (h : Q (.bool (decide (a < b))) s) : wpAny (model prog w) A (richCompare .Lt (.int a t) (.int b u)) Q E s :=
  CmpOf.ints_lt (P := fun i v => v = if i = 0 then .int a t else .int b u) (fun i => if i = 0 then a else b) (fun i v e => by by_cases q : i = 0 <;> simp_all) 0 1 _ _ s Q E rfl rfl h
noncomputable def maxStep (b x : Int) : Int := if x > b then x else b

theorem max_loop (hh : A.handled = none) {l I S : Addr} (hlI : l ≠ I) (hSI : S ≠ I) (hSl : S ≠ l) {vs : List Value} {ns : List Int} (hI : IntsAre vs ns) (kw : List (Str × Value)) :
    ∀ (k j : Nat) (s : Shared) (b : Int) (t : Tok) (c : Nat), ns.length - j = k → j ≤ ns.length → s.heap.IsListIter I l j → s.heap.IsList l vs.toArray →
      s.heap.get? S = some { cls := .type "list", dict := none, data := .seq #[.int b t, .int b t] c, slots := #[] } →
      (∀ t' h' tk, (∀ x o, x ≠ S → x ≠ I → s.heap.get? x = some o → h'.get? x = some o) → R (.ok (.ret (.int ((ns.drop j).foldl maxStep b) t'))) { s with heap := h', toks := tk }) →
      codeAny (model prog w) A (.builtin "max.loop" ⟨[.ref I, .none, .ref S], kw⟩) R s := by
  have hname : (toString "max" ++ toString ".loop" : String) = "max.loop" := by decide
  have hlen : vs.toArray.size = ns.length := by simp [IntsAre.length hI]
  have W : Walks prog w A.in1 I [I, l] [I] vs.toArray.size (fun i v => vs.toArray[i]? = some v) (fun i h => h.IsListIter I l i ∧ h.IsList l vs.toArray) := Walks.list (A := A.in1) hh I l hlI vs.toArray
  intro k
  induction k with
  | zero =>
    intro j s b t c hk hj hit hl hS hR
    have hin : j = ns.length := by omega
    subst hin
    rw [List.drop_length] at hR
    refine codeAny_builtin F.entry_max_loop ?_
    rw [Around.under_plainId F.plain_max_loop _]
    show wpAny _ A.in1 (seqItems? (.ref S) >>= _) _ _ s
    refine wpAny_bind (wpAny_seqItems hS rfl ?_)
    show wpAny _ A.in1 (tryCatch (pyNext (.ref I)) _ >>= _) _ _ s
    refine wpAny_bind (wpAny_tryCatch (W.done s _ _ (hlen ▸ ⟨hit, hl⟩) fun h' tk hk' => ?_))
    have hS' := hk' S _ (by simpa using hSI) hS
    show wpAny _ A.in1 (updateSeq S (fun _ => #[]) >>= _) _ _ _
    refine wpAny_bind ?_
    refine wpAny_updateSeq hS' rfl (wpAny_bind (wpAny_letGo (wpAny_pure ?_)))
    exact hR t _ tk fun x o h1 h2 e => (Heap.get?_update_other _ _ (Ne.symm h1)).trans (hk' x o (by simpa using h2) e)
  | succ k ih =>
    intro j s b t c hk hj hit hl hS hR
    have hlt : j < ns.length := by omega
    refine codeAny_builtin F.entry_max_loop ?_
    rw [Around.under_plainId F.plain_max_loop _]
    show wpAny _ A.in1 (seqItems? (.ref S) >>= _) _ _ s
    refine wpAny_bind (wpAny_seqItems hS rfl ?_)
    show wpAny _ A.in1 (tryCatch (pyNext (.ref I)) _ >>= _) _ _ s
    refine wpAny_bind (wpAny_tryCatch (W.item j s _ _ (by omega) ⟨hit, hl⟩ fun v h' tk hP hst' hk' => ?_))
    obtain ⟨u, rfl⟩ := IntsAre.int_at hI j v (by simpa using hP)
    have hS' := hk' S _ (by simpa using hSI) hS
    have hd : ns.drop j = ns.getD j 0 :: ns.drop (j + 1) := by
      rw [List.drop_eq_getElem_cons hlt, List.getD_eq_getElem?_getD, List.getElem?_eq_getElem hlt]; rfl
    rw [hd, List.foldl_cons] at hR
    generalize hx : ns.getD j 0 = x at *
    show wpAny _ A.in1 (tryCatch (holding [.int x u, .int x u] (richCompare .Gt (.int x u) (.int b t) >>= _)) _ >>= _) _ _ _
    refine wpAny_bind (wpAny_tryCatch (wpAny_holding (wpAny_bind (cmp_Gt ?_))))
    refine wpAny_bind (wpAny_holding (wpAny_truthy_bool ?_))
    refine wpAny_bind (wpAny_letGo (wpAny_pure ?_))
    by_cases hb : x > b
    · rw [decide_eq_true hb]
      simp only [if_true]
      refine wpAny_bind ?_
      refine wpAny_updateSeq hS' rfl (wpAny_bind (wpAny_letGo ?_))
      rw [hname]
      have hst2 := W.frame _ h' _ hst' (fun y hy o e => (Heap.get?_update_other h' (Obj.mapSeq fun _ => #[.int x u, .int x u]) (show S ≠ y from fun q => by
        subst q
        rcases List.mem_cons.mp hy with q | q
        · exact hSI q
        · exact hSl (List.mem_singleton.mp q))).trans e)
      refine wpAny_pure ⟨plainId_quiet F.plain_max_loop _, ih (j + 1) _ x u _ (by omega) hlt hst2.1 hst2.2 (Heap.get?_update_self _ hS' rfl) fun t' h'' tk'' hk'' => ?_⟩
      unfold maxStep at hR
      rw [if_pos hb] at hR
      exact hR t' h'' tk'' fun y o h1 h2 e => hk'' y o h1 h2 ((Heap.get?_update_other _ _ (Ne.symm h1)).trans (hk' y o (by simpa using h2) e))
    · rw [decide_eq_false hb]
      simp only [Bool.false_eq_true, if_false]
      refine wpAny_bind (wpAny_letGo ?_)
      rw [hname]
      refine wpAny_pure ⟨plainId_quiet F.plain_max_loop _, ih (j + 1) _ b t c (by omega) hlt hst'.1 hst'.2 hS' fun t' h'' tk'' hk'' => ?_⟩
      unfold maxStep at hR
      rw [if_neg hb] at hR
      exact hR t' h'' tk'' fun y o h1 h2 e => hk'' y o h1 h2 (hk' y o (by simpa using h2) e)

noncomputable def maxOf : List Int → Option Int
  | [] => none
  | x :: r => some (r.foldl maxStep x)

theorem max_first (hh : A.handled = none) {l I S : Addr} (hlI : l ≠ I) (hSI : S ≠ I) (hSl : S ≠ l) {vs : List Value} {ns : List Int} (hI : IntsAre vs ns) {kw : List (Str × Value)} {s : Shared} {c : Nat} (hit : s.heap.IsListIter I l 0) (hl : s.heap.IsList l vs.toArray)
    (hS : s.heap.get? S = some { cls := .type "list", dict := none, data := .seq #[] c, slots := #[] })
    (hR : ∀ m t' h' tk, maxOf ns = some m → (∀ x o, x ≠ S → x ≠ I → s.heap.get? x = some o → h'.get? x = some o) → R (.ok (.ret (.int m t'))) { s with heap := h', toks := tk })
    (hE : ∀ h' tk, ns = [] → (∀ x o, x ≠ S → x ≠ I → s.heap.get? x = some o → h'.get? x = some o) → ∃ n d r, kw = (n, d) :: r ∧ R (.ok (.ret d)) { s with heap := h', toks := tk }) :
      codeAny (model prog w) A (.builtin "max.loop" ⟨[.ref I, .none, .ref S], kw⟩) R s := by
  have hname : (toString "max" ++ toString ".loop" : String) = "max.loop" := by decide
  have W : Walks prog w A.in1 I [I, l] [I] vs.toArray.size (fun i v => vs.toArray[i]? = some v) (fun i h => h.IsListIter I l i ∧ h.IsList l vs.toArray) := Walks.list (A := A.in1) hh I l hlI vs.toArray
  refine codeAny_builtin F.entry_max_loop ?_
  rw [Around.under_plainId F.plain_max_loop _]
  show wpAny _ A.in1 (seqItems? (.ref S) >>= _) _ _ s
  refine wpAny_bind (wpAny_seqItems hS rfl ?_)
  show wpAny _ A.in1 (tryCatch (pyNext (.ref I)) _ >>= _) _ _ s
  cases hI with
  | nil =>
    refine wpAny_bind (wpAny_tryCatch (W.done s _ _ ⟨hit, hl⟩ fun h' tk hk' => ?_))
    obtain ⟨n, d, r, rfl, hr⟩ := hE h' tk rfl fun x o _ h2 e => hk' x o (by simpa using h2) e
    refine wpAny_bind (wpAny_rule ?_)
    exact wpAny_pure hr
  | cons x u hr =>
    rename_i vs ns
    refine wpAny_bind (wpAny_tryCatch (W.item 0 s _ _ (by simp) ⟨hit, hl⟩ fun v h' tk hP hst' hk' => ?_))
    have hv : v = .int x u := by simpa using hP.symm
    subst hv
    have hS' := hk' S _ (by simpa using hSI) hS
    show wpAny _ A.in1 (updateSeq S (fun _ => #[.int x u, .int x u]) >>= _) _ _ _
    refine wpAny_bind ?_
    refine wpAny_updateSeq hS' rfl ?_
    rw [hname]
    have hst2 := W.frame _ h' _ hst' (fun y hy o e => (Heap.get?_update_other h' (Obj.mapSeq fun _ => #[.int x u, .int x u]) (show S ≠ y from fun q => by
      subst q
      rcases List.mem_cons.mp hy with q | q
      · exact hSI q
      · exact hSl (List.mem_singleton.mp q))).trans e)
    refine wpAny_pure ⟨plainId_quiet F.plain_max_loop _, max_loop hh hlI hSI hSl (.cons x u hr) kw _ 1 _ x u _ rfl (by simp) hst2.1 hst2.2 (Heap.get?_update_self _ hS' rfl) fun t' h'' tk'' hk'' => ?_⟩
    exact hR _ t' h'' tk'' rfl fun y o h1 h2 e => hk'' y o h1 h2 ((Heap.get?_update_other _ _ (Ne.symm h1)).trans (hk' y o (by simpa using h2) e))

theorem args_max_d (x y : Value) : argsOk "max" ⟨[x], [(Str.ofString "default", y)]⟩ := by unfold argsOk; kernel_rfl

theorem call_max_d {l : Addr} {vs : List Value} {ns : List Int} {y : Value} {Q : Value → Shared → Prop} (hh : A.handled = none) (hl : s.heap.IsList l vs.toArray) (hI : IntsAre vs ns)
    (hQ : ∀ v h' tk, (match maxOf ns with | none => v = y | some m => ∃ t, v = .int m t) → (∀ x o, s.heap.get? x = some o → h'.get? x = some o) → Q v { s with heap := h', toks := tk }) :
    wpAny (model prog w) A (call (.builtin "max") [.ref l] [(Str.ofString "default", y)]) Q E s := by
  have hname : (toString "max" ++ toString ".loop" : String) = "max.loop" := by decide
  obtain ⟨ol, hol, _⟩ := id hl
  have hll : l < s.heap.objs.size := Heap.lt_size hol
  refine kmk_tree PySem.F.kind_max PySem.F.plain_max PySem.F.entry_max (args_max_d _ _) ?_
  show wpAny _ A.in1 (Builtin.Builtins.bindParams "max" ["key", "default"] 0 ⟨[], [(Str.ofString "default", y)]⟩ >>= _) _ _ s
  refine wpAny_bind (wpAny_of_eq (show Builtin.Builtins.bindParams "max" ["key", "default"] 0 ⟨[], [(Str.ofString "default", y)]⟩ = pure [none, some y] from rfl) ?_)
  refine wpAny_bind (wpAny_pure ?_)
  refine wpAny_bind (wpAny_pyIter_list hl ?_)
  refine wpAny_bind (wpAny_newList ?_ (Nat.zero_le _))
  rw [hname]
  have hS : (s.heap.push { cls := .type "list_iterator", data := .fields #[.ref l, .int 0 0] }).objs.size = s.heap.objs.size + 1 := size_push' ..
  refine wpAny_pure ⟨plainId_quiet PySem.F.plain_max_loop _, ?_⟩
  have keep : ∀ (h' : Heap), (∀ x o, x ≠ (s.heap.push { cls := .type "list_iterator", data := .fields #[.ref l, .int 0 0] }).objs.size → x ≠ s.heap.objs.size → ((s.heap.push { cls := .type "list_iterator", data := .fields #[.ref l, .int 0 0] }).push (seqObj "list" #[] 0)).get? x = some o → h'.get? x = some o) →
      ∀ x o, s.heap.get? x = some o → h'.get? x = some o := fun h' hk x o e => hk x o (by rw [hS]; exact Nat.ne_of_lt (Nat.lt_succ_of_lt (Heap.lt_size e))) (Nat.ne_of_lt (Heap.lt_size e)) (Heap.get?_push_of_some _ (Heap.get?_push_of_some _ e))
  have hSI : (s.heap.push { cls := .type "list_iterator", data := .fields #[.ref l, .int 0 0] }).objs.size ≠ s.heap.objs.size := by rw [hS]; exact Nat.ne_of_gt (Nat.lt_succ_self _)
  have hSl : (s.heap.push { cls := .type "list_iterator", data := .fields #[.ref l, .int 0 0] }).objs.size ≠ l := by rw [hS]; exact Nat.ne_of_gt (Nat.lt_succ_of_lt hll)
  refine max_first hh (Nat.ne_of_lt hll) hSI hSl hI
    ⟨_, Heap.get?_push_of_some _ (Heap.get?_push_size _ rfl), rfl, rfl⟩ ((hl.push _).push _) (Heap.get?_push_size _ rfl) (fun m t' h' tk hm hk => ?_) (fun h' tk hn hk => ⟨_, y, _, rfl, ?_⟩)
  · exact hQ _ h' tk (by rw [hm]; exact ⟨t', rfl⟩) (keep h' hk)
  · subst hn
    exact hQ y h' tk rfl (keep h' hk)

noncomputable def minStep (b x : Int) : Int := if x < b then x else b

theorem min_loop (hh : A.handled = none) {l I S : Addr} (hlI : l ≠ I) (hSI : S ≠ I) (hSl : S ≠ l) {vs : List Value} {ns : List Int} (hI : IntsAre vs ns) (kw : List (Str × Value)) :
    ∀ (k j : Nat) (s : Shared) (b : Int) (t : Tok) (c : Nat), ns.length - j = k → j ≤ ns.length → s.heap.IsListIter I l j → s.heap.IsList l vs.toArray →
      s.heap.get? S = some { cls := .type "list", dict := none, data := .seq #[.int b t, .int b t] c, slots := #[] } →
      (∀ t' h' tk, (∀ x o, x ≠ S → x ≠ I → s.heap.get? x = some o → h'.get? x = some o) → R (.ok (.ret (.int ((ns.drop j).foldl minStep b) t'))) { s with heap := h', toks := tk }) →
      codeAny (model prog w) A (.builtin "min.loop" ⟨[.ref I, .none, .ref S], kw⟩) R s := by
  have hname : (toString "min" ++ toString ".loop" : String) = "min.loop" := by decide
  have hlen : vs.toArray.size = ns.length := by simp [IntsAre.length hI]
  have W : Walks prog w A.in1 I [I, l] [I] vs.toArray.size (fun i v => vs.toArray[i]? = some v) (fun i h => h.IsListIter I l i ∧ h.IsList l vs.toArray) := Walks.list (A := A.in1) hh I l hlI vs.toArray
  intro k
  induction k with
  | zero =>
    intro j s b t c hk hj hit hl hS hR
    have hin : j = ns.length := by omega
    subst hin
    rw [List.drop_length] at hR
    refine codeAny_builtin F.entry_min_loop ?_
    rw [Around.under_plainId F.plain_min_loop _]
    show wpAny _ A.in1 (seqItems? (.ref S) >>= _) _ _ s
    refine wpAny_bind (wpAny_seqItems hS rfl ?_)
    show wpAny _ A.in1 (tryCatch (pyNext (.ref I)) _ >>= _) _ _ s
    refine wpAny_bind (wpAny_tryCatch (W.done s _ _ (hlen ▸ ⟨hit, hl⟩) fun h' tk hk' => ?_))
    have hS' := hk' S _ (by simpa using hSI) hS
    show wpAny _ A.in1 (updateSeq S (fun _ => #[]) >>= _) _ _ _
    refine wpAny_bind ?_
    refine wpAny_updateSeq hS' rfl (wpAny_bind (wpAny_letGo (wpAny_pure ?_)))
    exact hR t _ tk fun x o h1 h2 e => (Heap.get?_update_other _ _ (Ne.symm h1)).trans (hk' x o (by simpa using h2) e)
  | succ k ih =>
    intro j s b t c hk hj hit hl hS hR
    have hlt : j < ns.length := by omega
    refine codeAny_builtin F.entry_min_loop ?_
    rw [Around.under_plainId F.plain_min_loop _]
    show wpAny _ A.in1 (seqItems? (.ref S) >>= _) _ _ s
    refine wpAny_bind (wpAny_seqItems hS rfl ?_)
    show wpAny _ A.in1 (tryCatch (pyNext (.ref I)) _ >>= _) _ _ s
    refine wpAny_bind (wpAny_tryCatch (W.item j s _ _ (by omega) ⟨hit, hl⟩ fun v h' tk hP hst' hk' => ?_))
    obtain ⟨u, rfl⟩ := IntsAre.int_at hI j v (by simpa using hP)
    have hS' := hk' S _ (by simpa using hSI) hS
    have hd : ns.drop j = ns.getD j 0 :: ns.drop (j + 1) := by
      rw [List.drop_eq_getElem_cons hlt, List.getD_eq_getElem?_getD, List.getElem?_eq_getElem hlt]; rfl
    rw [hd, List.foldl_cons] at hR
    generalize hx : ns.getD j 0 = x at *
    show wpAny _ A.in1 (tryCatch (holding [.int x u, .int x u] (richCompare .Lt (.int x u) (.int b t) >>= _)) _ >>= _) _ _ _
    refine wpAny_bind (wpAny_tryCatch (wpAny_holding (wpAny_bind (cmp_Lt ?_))))
    refine wpAny_bind (wpAny_holding (wpAny_truthy_bool ?_))
    refine wpAny_bind (wpAny_letGo (wpAny_pure ?_))
    by_cases hb : x < b
    · rw [decide_eq_true hb]
      simp only [if_true]
      refine wpAny_bind ?_
      refine wpAny_updateSeq hS' rfl (wpAny_bind (wpAny_letGo ?_))
      rw [hname]
      have hst2 := W.frame _ h' _ hst' (fun y hy o e => (Heap.get?_update_other h' (Obj.mapSeq fun _ => #[.int x u, .int x u]) (show S ≠ y from fun q => by
        subst q
        rcases List.mem_cons.mp hy with q | q
        · exact hSI q
        · exact hSl (List.mem_singleton.mp q))).trans e)
      refine wpAny_pure ⟨plainId_quiet F.plain_min_loop _, ih (j + 1) _ x u _ (by omega) hlt hst2.1 hst2.2 (Heap.get?_update_self _ hS' rfl) fun t' h'' tk'' hk'' => ?_⟩
      unfold minStep at hR
      rw [if_pos hb] at hR
      exact hR t' h'' tk'' fun y o h1 h2 e => hk'' y o h1 h2 ((Heap.get?_update_other _ _ (Ne.symm h1)).trans (hk' y o (by simpa using h2) e))
    · rw [decide_eq_false hb]
      simp only [Bool.false_eq_true, if_false]
      refine wpAny_bind (wpAny_letGo ?_)
      rw [hname]
      refine wpAny_pure ⟨plainId_quiet F.plain_min_loop _, ih (j + 1) _ b t c (by omega) hlt hst'.1 hst'.2 hS' fun t' h'' tk'' hk'' => ?_⟩
      unfold minStep at hR
      rw [if_neg hb] at hR
      exact hR t' h'' tk'' fun y o h1 h2 e => hk'' y o h1 h2 (hk' y o (by simpa using h2) e)

noncomputable def minOf : List Int → Option Int
  | [] => none
  | x :: r => some (r.foldl minStep x)

theorem min_first (hh : A.handled = none) {l I S : Addr} (hlI : l ≠ I) (hSI : S ≠ I) (hSl : S ≠ l) {vs : List Value} {ns : List Int} (hI : IntsAre vs ns) {kw : List (Str × Value)} {s : Shared} {c : Nat} (hit : s.heap.IsListIter I l 0) (hl : s.heap.IsList l vs.toArray)
    (hS : s.heap.get? S = some { cls := .type "list", dict := none, data := .seq #[] c, slots := #[] })
    (hR : ∀ m t' h' tk, minOf ns = some m → (∀ x o, x ≠ S → x ≠ I → s.heap.get? x = some o → h'.get? x = some o) → R (.ok (.ret (.int m t'))) { s with heap := h', toks := tk })
    (hE : ∀ h' tk, ns = [] → (∀ x o, x ≠ S → x ≠ I → s.heap.get? x = some o → h'.get? x = some o) → ∃ n d r, kw = (n, d) :: r ∧ R (.ok (.ret d)) { s with heap := h', toks := tk }) :
      codeAny (model prog w) A (.builtin "min.loop" ⟨[.ref I, .none, .ref S], kw⟩) R s := by
  have hname : (toString "min" ++ toString ".loop" : String) = "min.loop" := by decide
  have W : Walks prog w A.in1 I [I, l] [I] vs.toArray.size (fun i v => vs.toArray[i]? = some v) (fun i h => h.IsListIter I l i ∧ h.IsList l vs.toArray) := Walks.list (A := A.in1) hh I l hlI vs.toArray
  refine codeAny_builtin F.entry_min_loop ?_
  rw [Around.under_plainId F.plain_min_loop _]
  show wpAny _ A.in1 (seqItems? (.ref S) >>= _) _ _ s
  refine wpAny_bind (wpAny_seqItems hS rfl ?_)
  show wpAny _ A.in1 (tryCatch (pyNext (.ref I)) _ >>= _) _ _ s
  cases hI with
  | nil =>
    refine wpAny_bind (wpAny_tryCatch (W.done s _ _ ⟨hit, hl⟩ fun h' tk hk' => ?_))
    obtain ⟨n, d, r, rfl, hr⟩ := hE h' tk rfl fun x o _ h2 e => hk' x o (by simpa using h2) e
    refine wpAny_bind (wpAny_rule ?_)
    exact wpAny_pure hr
  | cons x u hr =>
    rename_i vs ns
    refine wpAny_bind (wpAny_tryCatch (W.item 0 s _ _ (by simp) ⟨hit, hl⟩ fun v h' tk hP hst' hk' => ?_))
    have hv : v = .int x u := by simpa using hP.symm
    subst hv
    have hS' := hk' S _ (by simpa using hSI) hS
    show wpAny _ A.in1 (updateSeq S (fun _ => #[.int x u, .int x u]) >>= _) _ _ _
    refine wpAny_bind ?_
    refine wpAny_updateSeq hS' rfl ?_
    rw [hname]
    have hst2 := W.frame _ h' _ hst' (fun y hy o e => (Heap.get?_update_other h' (Obj.mapSeq fun _ => #[.int x u, .int x u]) (show S ≠ y from fun q => by
      subst q
      rcases List.mem_cons.mp hy with q | q
      · exact hSI q
      · exact hSl (List.mem_singleton.mp q))).trans e)
    refine wpAny_pure ⟨plainId_quiet F.plain_min_loop _, min_loop hh hlI hSI hSl (.cons x u hr) kw _ 1 _ x u _ rfl (by simp) hst2.1 hst2.2 (Heap.get?_update_self _ hS' rfl) fun t' h'' tk'' hk'' => ?_⟩
    exact hR _ t' h'' tk'' rfl fun y o h1 h2 e => hk'' y o h1 h2 ((Heap.get?_update_other _ _ (Ne.symm h1)).trans (hk' y o (by simpa using h2) e))

theorem args_min_d (x y : Value) : argsOk "min" ⟨[x], [(Str.ofString "default", y)]⟩ := by unfold argsOk; kernel_rfl

theorem call_min_d {l : Addr} {vs : List Value} {ns : List Int} {y : Value} {Q : Value → Shared → Prop} (hh : A.handled = none) (hl : s.heap.IsList l vs.toArray) (hI : IntsAre vs ns)
    (hQ : ∀ v h' tk, (match minOf ns with | none => v = y | some m => ∃ t, v = .int m t) → (∀ x o, s.heap.get? x = some o → h'.get? x = some o) → Q v { s with heap := h', toks := tk }) :
    wpAny (model prog w) A (call (.builtin "min") [.ref l] [(Str.ofString "default", y)]) Q E s := by
  have hname : (toString "min" ++ toString ".loop" : String) = "min.loop" := by decide
  obtain ⟨ol, hol, _⟩ := id hl
  have hll : l < s.heap.objs.size := Heap.lt_size hol
  refine kmk_tree PySem.F.kind_min PySem.F.plain_min PySem.F.entry_min (args_min_d _ _) ?_
  show wpAny _ A.in1 (Builtin.Builtins.bindParams "min" ["key", "default"] 0 ⟨[], [(Str.ofString "default", y)]⟩ >>= _) _ _ s
  refine wpAny_bind (wpAny_of_eq (show Builtin.Builtins.bindParams "min" ["key", "default"] 0 ⟨[], [(Str.ofString "default", y)]⟩ = pure [none, some y] from rfl) ?_)
  refine wpAny_bind (wpAny_pure ?_)
  refine wpAny_bind (wpAny_pyIter_list hl ?_)
  refine wpAny_bind (wpAny_newList ?_ (Nat.zero_le _))
  rw [hname]
  have hS : (s.heap.push { cls := .type "list_iterator", data := .fields #[.ref l, .int 0 0] }).objs.size = s.heap.objs.size + 1 := size_push' ..
  refine wpAny_pure ⟨plainId_quiet PySem.F.plain_min_loop _, ?_⟩
  have keep : ∀ (h' : Heap), (∀ x o, x ≠ (s.heap.push { cls := .type "list_iterator", data := .fields #[.ref l, .int 0 0] }).objs.size → x ≠ s.heap.objs.size → ((s.heap.push { cls := .type "list_iterator", data := .fields #[.ref l, .int 0 0] }).push (seqObj "list" #[] 0)).get? x = some o → h'.get? x = some o) →
      ∀ x o, s.heap.get? x = some o → h'.get? x = some o := fun h' hk x o e => hk x o (by rw [hS]; exact Nat.ne_of_lt (Nat.lt_succ_of_lt (Heap.lt_size e))) (Nat.ne_of_lt (Heap.lt_size e)) (Heap.get?_push_of_some _ (Heap.get?_push_of_some _ e))
  have hSI : (s.heap.push { cls := .type "list_iterator", data := .fields #[.ref l, .int 0 0] }).objs.size ≠ s.heap.objs.size := by rw [hS]; exact Nat.ne_of_gt (Nat.lt_succ_self _)
  have hSl : (s.heap.push { cls := .type "list_iterator", data := .fields #[.ref l, .int 0 0] }).objs.size ≠ l := by rw [hS]; exact Nat.ne_of_gt (Nat.lt_succ_of_lt hll)
  refine min_first hh (Nat.ne_of_lt hll) hSI hSl hI
    ⟨_, Heap.get?_push_of_some _ (Heap.get?_push_size _ rfl), rfl, rfl⟩ ((hl.push _).push _) (Heap.get?_push_size _ rfl) (fun m t' h' tk hm hk => ?_) (fun h' tk hn hk => ⟨_, y, _, rfl, ?_⟩)
  · exact hQ _ h' tk (by rw [hm]; exact ⟨t', rfl⟩) (keep h' hk)
  · subst hn
    exact hQ y h' tk rfl (keep h' hk)

end
end Mine

open PySem PyProof.Rows
set_option Elab.async false
namespace Mine

/-- plain data; `obj a` is a reference to a mutable object of the store -/
inductive D where
  | none
  | bool (b : Bool)
  | int (i : Int)
  | str (x : Str)
  | tuple (xs : List D)
  | list (xs : List D)
  | obj (a : Addr)

/-- mutable objects -/
inductive MObj where
  | mlist (ds : List D)
  | inst (C dx : Addr) (fs : List (Str × D))
  | mdict (kvs : List (Int × D))

noncomputable abbrev Store := Addr → Option MObj
noncomputable def dom (σ : Store) (a : Addr) : Prop := σ a ≠ Option.none ∨ ∃ x C fs, σ x = some (.inst C a fs)

mutual
noncomputable def Rep (N : Addr → Prop) (h : Heap) : D → Value → Prop
  | .none, v => v = .none
  | .bool b, v => v = .bool b
  | .int i, v => ∃ t, v = .int i t
  | .str x, v => ∃ t, v = .str x t
  | .tuple ds, v => ∃ a vs, v = .ref a ∧ N a ∧ h.IsTuple a vs ∧ RepL N h ds vs.toList
  | .list ds, v => ∃ a vs, v = .ref a ∧ N a ∧ h.IsList a vs ∧ RepL N h ds vs.toList
  | .obj a, v => v = .ref a
noncomputable def RepL (N : Addr → Prop) (h : Heap) : List D → List Value → Prop
  | [], vs => vs = []
  | d :: ds, vs => ∃ v r, vs = v :: r ∧ Rep N h d v ∧ RepL N h ds r
end

noncomputable def Stay (N N' : Addr → Prop) (h h' : Heap) : Prop :=
  ∀ a o items n, N a → h.get? a = some o → o.data = .seq items n → h'.get? a = some o ∧ N' a

mutual
theorem Rep.stay {N N' : Addr → Prop} {h h' : Heap} (k : Stay N N' h h') : ∀ (d : D) (v : Value), Rep N h d v → Rep N' h' d v
  | .none, v, x => by simp only [Rep] at x ⊢; exact x
  | .bool b, v, x => by simp only [Rep] at x ⊢; exact x
  | .int i, v, x => by simp only [Rep] at x ⊢; exact x
  | .str i, v, x => by simp only [Rep] at x ⊢; exact x
  | .obj i, v, x => by simp only [Rep] at x ⊢; exact x
  | .tuple ds, v, x => by
    simp only [Rep] at x ⊢
    obtain ⟨a, vs, e, hN, ⟨o, ho, hc, n, hd⟩, hr⟩ := x
    obtain ⟨h1, h2⟩ := k a o vs n hN ho hd
    exact ⟨a, vs, e, h2, ⟨o, h1, hc, n, hd⟩, RepL.stay k ds _ hr⟩
  | .list ds, v, x => by
    simp only [Rep] at x ⊢
    obtain ⟨a, vs, e, hN, ⟨o, ho, hc, n, hd⟩, hr⟩ := x
    obtain ⟨h1, h2⟩ := k a o vs n hN ho hd
    exact ⟨a, vs, e, h2, ⟨o, h1, hc, n, hd⟩, RepL.stay k ds _ hr⟩
theorem RepL.stay {N N' : Addr → Prop} {h h' : Heap} (k : Stay N N' h h') : ∀ (ds : List D) (vs : List Value), RepL N h ds vs → RepL N' h' ds vs
  | [], vs, x => by simp only [RepL] at x ⊢; exact x
  | d :: ds, vs, x => by
    simp only [RepL] at x ⊢
    obtain ⟨v, r, e, h1, h2⟩ := x
    exact ⟨v, r, e, Rep.stay k d v h1, RepL.stay k ds r h2⟩
end

theorem RepL.length {N : Addr → Prop} {h : Heap} : ∀ {ds : List D} {vs : List Value}, RepL N h ds vs → vs.length = ds.length
  | [], vs, x => by simp only [RepL] at x; subst x; rfl
  | d :: ds, vs, x => by
    simp only [RepL] at x
    obtain ⟨v, r, rfl, _, h2⟩ := x
    simp [RepL.length h2]
theorem RepL.get {N : Addr → Prop} {h : Heap} : ∀ {ds : List D} {vs : List Value}, RepL N h ds vs → ∀ {i : Nat} {d : D}, ds[i]? = some d → ∃ v, vs[i]? = some v ∧ Rep N h d v
  | [], vs, x, i, d, e => by simp at e
  | d :: ds, vs, x, i, d', e => by
    simp only [RepL] at x
    obtain ⟨v, r, rfl, h1, h2⟩ := x
    cases i with
    | zero => simp at e; subst e; exact ⟨v, rfl, h1⟩
    | succ i => simp at e; obtain ⟨u, hu, hr⟩ := RepL.get h2 e; exact ⟨u, by simpa using hu, hr⟩
theorem RepL.append {N : Addr → Prop} {h : Heap} : ∀ {ds es : List D} {vs us : List Value}, RepL N h ds vs → RepL N h es us → RepL N h (ds ++ es) (vs ++ us)
  | [], es, vs, us, x, y => by simp only [RepL] at x; subst x; simpa using y
  | d :: ds, es, vs, us, x, y => by
    simp only [RepL] at x
    obtain ⟨v, r, rfl, h1, h2⟩ := x
    exact ⟨v, r ++ us, rfl, h1, RepL.append h2 y⟩
theorem RepL.nil {N : Addr → Prop} {h : Heap} : RepL N h [] [] := by simp [RepL]
theorem RepL.cons {N : Addr → Prop} {h : Heap} {d ds v vs} (x : Rep N h d v) (y : RepL N h ds vs) : RepL N h (d :: ds) (v :: vs) := by simp only [RepL]; exact ⟨v, vs, rfl, x, y⟩
theorem RepL.one {N : Addr → Prop} {h : Heap} {d v} (x : Rep N h d v) : RepL N h [d] [v] := .cons x .nil
/-- where plain data may lie: not in the store, not in the protected set -/
noncomputable def nd (σ : Store) (P : Addr → Prop) (a : Addr) : Prop := ¬ dom σ a ∧ ¬ P a

/-- entries of a namespace: names and values -/
noncomputable def EntS : List DictEntry → List Str → List Value → Prop
  | [], [], [] => True
  | e :: es, k :: ks, v :: vs => (∃ t, e.key = .str k t) ∧ e.val = v ∧ EntS es ks vs
  | _, _, _ => False
/-- entries of a dict with whole numbers as keys -/
noncomputable def EntI : List DictEntry → List Int → List Value → Prop
  | [], [], [] => True
  | e :: es, k :: ks, v :: vs => (∃ t, e.key = .int k t) ∧ e.hash = hashInt k ∧ e.val = v ∧ EntI es ks vs
  | _, _, _ => False

/-- what a mutable object is in the heap -/
noncomputable def MRep (σ : Store) (P : Addr → Prop) (h : Heap) (a : Addr) : MObj → Prop
  | .mlist ds => ∃ vs, h.PlainList a vs ∧ RepL (nd σ P) h ds vs.toList
  | .inst C dx fs => ∃ (n : Nat) (es : List DictEntry) (vs : List Value), h.get? a = some ({ cls := .ref C, dict := some dx, data := .plain } : Obj) ∧ h.get? dx = some ({ cls := .type "dict", data := .dict es.toArray n } : Obj) ∧ EntS es (fs.map (·.1)) vs ∧ es.length ≤ 1000 ∧
      RepL (nd σ P) h (fs.map (·.2)) vs ∧ (fs.map (·.1)).Nodup ∧ dx ≠ a
  | .mdict kvs => ∃ (n : Nat) (es : List DictEntry) (vs : List Value), h.get? a = some ({ cls := .type "dict", data := .dict es.toArray n } : Obj) ∧ EntI es (kvs.map (·.1)) vs ∧ RepL (nd σ P) h (kvs.map (·.2)) vs ∧ (kvs.map (·.1)).Nodup ∧ a ≠ sysModules

structure StoreOk (σ : Store) (P : Addr → Prop) (h : Heap) : Prop where
  rep : ∀ a mo, σ a = some mo → MRep σ P h a mo
  apart : ∀ x C dx fs, σ x = some (.inst C dx fs) → σ dx = Option.none ∧ ∀ y C' fs', σ y = some (.inst C' dx fs') → y = x
  free : ∀ a, dom σ a → ¬ P a

/-- what a run may do to the state: frame objects F and the store may change -/
structure Step (F : Addr → Prop) (σ σ' : Store) (s s' : Shared) : Prop where
  same : ∃ h' tk, s' = { s with heap := h', toks := tk }
  keep : ∀ a o, s.heap.get? a = some o → ¬ dom σ a → ¬ F a → s'.heap.get? a = some o
  alive : ∀ a o, s.heap.get? a = some o → ∃ o', s'.heap.get? a = some o'
  new : ∀ a, dom σ' a → dom σ a ∨ s.heap.get? a = Option.none

noncomputable abbrev noF : Addr → Prop := fun _ => False

theorem Step.refl (F σ s) : Step F σ σ s s := ⟨⟨s.heap, s.toks, rfl⟩, fun _ _ e _ _ => e, fun _ o e => ⟨o, e⟩, fun _ x => .inl x⟩
theorem Step.trans {F σ σ₁ σ₂ s s₁ s₂} (x : Step F σ σ₁ s s₁) (y : Step F σ₁ σ₂ s₁ s₂) : Step F σ σ₂ s s₂ := by
  refine ⟨?_, fun a o e hd hf => y.keep a o (x.keep a o e hd hf) (fun h1 => (x.new a h1).elim hd (fun hn => by rw [hn] at e; cases e)) hf, fun a o e => ?_, fun a ha => ?_⟩
  · obtain ⟨h₁, t₁, rfl⟩ := x.same
    obtain ⟨h₂, t₂, rfl⟩ := y.same
    exact ⟨h₂, t₂, rfl⟩
  · obtain ⟨o', e'⟩ := x.alive a o e
    exact y.alive a o' e'
  · rcases y.new a ha with h | h
    · exact x.new a h
    · right
      cases e : s.heap.get? a with
      | none => rfl
      | some o => obtain ⟨o', e'⟩ := x.alive a o e; rw [h] at e'; cases e'
theorem Step.weak {F F' σ σ' s s'} (x : Step F σ σ' s s') (h : ∀ a, F a → F' a) : Step F' σ σ' s s' := ⟨x.same, fun a o e hd hf => x.keep a o e hd (fun q => hf (h a q)), x.alive, x.new⟩
theorem Step.of_keeps {F σ s s'} (x : Keeps s s') : Step F σ σ s s' := by
  obtain ⟨h', tk, rfl, hk⟩ := x
  exact ⟨⟨h', tk, rfl⟩, fun a o e _ _ => hk a o e, fun a o e => ⟨o, hk a o e⟩, fun _ h => .inl h⟩
theorem Step.stay {σ σ' s s'} (P : Addr → Prop) (x : Step noF σ σ' s s') : Stay (nd σ P) (nd σ' P) s.heap s'.heap := fun a o items n hN ho _ =>
  ⟨x.keep a o ho hN.1 (fun h => h), fun h => (x.new a h).elim hN.1 (fun e => by rw [e] at ho; cases ho), hN.2⟩

structure Cx where
  prog : Program
  w : World
  b : Heap
  mg : Str → Option Value
  mb : Str → Option Value
  hg : b.Ns mainGlobals mg
  hb : b.Ns builtinsNs mb
  hl : b.NoLimit
  K : PySem.W.Frag
  KX : K.In b

noncomputable def Cx.glob (c : Cx) (x : Str) : Option Value := (c.mg x).or (c.mb x)
noncomputable abbrev Cx.M (c : Cx) : Model := model c.prog c.w

noncomputable def Room (n : Nat) (A : Around) : Prop := A.handled = Option.none ∧ A.depth + n ≤ 900 ∧ A.units + 10 * n + 500 ≤ 9000

theorem Room.deeper {n : Nat} {A : Around} (h : Room (n + 1) A) (env : Env) : Room n (A.deeper env) := by
  obtain ⟨a, b, d⟩ := h
  refine ⟨a, ?_, ?_⟩
  · show A.depth + 1 + n ≤ 900; omega
  · show A.units + 3 + 10 * n + 500 ≤ 9000; omega
theorem Room.le {n m : Nat} {A : Around} (h : Room n A) (hm : m ≤ n) : Room m A := ⟨h.1, by have := h.2.1; omega, by have := h.2.2; omega⟩
noncomputable abbrev PEnv := List (Option D)
noncomputable def PEnv.at : PEnv → Nat → Option D
  | [], _ => Option.none
  | d :: _, 0 => d
  | _ :: r, i + 1 => PEnv.at r i
noncomputable def PEnv.put : PEnv → Nat → D → PEnv
  | [], _, _ => []
  | _ :: r, 0, d => some d :: r
  | e :: r, i + 1, d => e :: PEnv.put r i d
theorem PEnv.at_put : ∀ (ρ : PEnv) (i j : Nat) (d e : D), (ρ.put i d).at j = some e → (j = i ∧ e = d) ∨ (j ≠ i ∧ ρ.at j = some e)
  | [], i, j, d, e, h => by simp [PEnv.put, PEnv.at] at h
  | x :: r, 0, 0, d, e, h => by simp [PEnv.put, PEnv.at] at h; exact .inl ⟨rfl, h.symm⟩
  | x :: r, 0, j + 1, d, e, h => by simp [PEnv.put, PEnv.at] at h; exact .inr ⟨by omega, by simpa [PEnv.at] using h⟩
  | x :: r, i + 1, 0, d, e, h => by simp [PEnv.put, PEnv.at] at h; exact .inr ⟨by omega, by simpa [PEnv.at] using h⟩
  | x :: r, i + 1, j + 1, d, e, h => by
    simp [PEnv.put, PEnv.at] at h
    rcases PEnv.at_put r i j d e h with ⟨a, b⟩ | ⟨a, b⟩
    · exact .inl ⟨by omega, b⟩
    · exact .inr ⟨by omega, by simpa [PEnv.at] using b⟩

noncomputable def VarIs (env : Env) (h : Heap) (x : Str) (v : Value) : Prop :=
  (env.kindOf x = some .local ∧ ∃ m, h.Ns env.locals m ∧ m x = some v) ∨ (env.kindOf x = some .cell ∧ ∃ ca, env.cells.lookup x = some ca ∧ h.IsCell ca (some v))

noncomputable def FrA (env : Env) (a : Addr) : Prop := a = env.locals ∨ ∃ x, env.cells.lookup x = some a

/-- the shape of a frame's names -/
structure EnvOk (nm : Nat → Str) (vs : List Nat) (env : Env) : Prop where
  kind : env.scope.kind = .function
  globals : env.globals = mainGlobals
  builtins : env.builtins = builtinsNs
  inj : ∀ i ∈ vs, ∀ j ∈ vs, nm i = nm j → i = j
  kinds : ∀ i ∈ vs, env.kindOf (nm i) = some .local ∨ (env.kindOf (nm i) = some .cell ∧ ∃ ca, env.cells.lookup (nm i) = some ca)
  dbg : ∀ i ∈ vs, (nm i == ("__debug__" : Str)) = false
  apart : env.cells.Pairwise fun x y => x.2 ≠ y.2

structure Good (c : Cx) (nm : Nat → Str) (vs : List Nat) (env : Env) (ρ : PEnv) (σ : Store) (P : Addr → Prop) (s : Shared) : Prop where
  base : ∀ a o, c.b.get? a = some o → s.heap.get? a = some o
  ns : ∃ m, s.heap.Ns env.locals m
  cell : ∀ x ca, env.cells.lookup x = some ca → ∃ v, s.heap.IsCell ca v
  var : ∀ i d, ρ.at i = some d → i ∈ vs ∧ ∃ v, VarIs env s.heap (nm i) v ∧ Rep (nd σ P) s.heap d v
  st : StoreOk σ P s.heap
  own : ∀ a, dom σ a → c.b.get? a = Option.none ∧ ¬ FrA env a
  fresh : ∀ a, FrA env a → c.b.get? a = Option.none
  prot : ∀ a, P a → ∃ o, s.heap.get? a = some o

theorem VarIs.keep {env : Env} {h h' : Heap} {x : Str} {v : Value} (y : VarIs env h x v) (k : ∀ a o, FrA env a → h.get? a = some o → h'.get? a = some o) : VarIs env h' x v := by
  rcases y with ⟨a, m, hn, hm⟩ | ⟨a, ca, hc, o, ho, hd⟩
  · exact .inl ⟨a, m, hn.at' (fun o e => k _ o (.inl rfl) e), hm⟩
  · exact .inr ⟨a, ca, hc, o, k ca o (.inr ⟨x, hc⟩) ho, hd⟩

theorem Good.fr_alive {c nm vs env ρ σ P s} (g : Good c nm vs env ρ σ P s) {a : Addr} (h : FrA env a) : ∃ o, s.heap.get? a = some o ∧ ∀ items n, o.data ≠ .seq items n := by
  rcases h with rfl | ⟨x, hx⟩
  · obtain ⟨m, o, es, ep, ho, hd, _⟩ := g.ns
    exact ⟨o, ho, fun items n e => by rw [hd] at e; cases e⟩
  · obtain ⟨v, o, ho, hd⟩ := g.cell x a hx
    exact ⟨o, ho, fun items n e => by rw [hd] at e; cases e⟩

theorem Good.next {c nm vs env ρ σ σ' P s s'} (g : Good c nm vs env ρ σ P s) (st : Step noF σ σ' s s') (ok : StoreOk σ' P s'.heap) : Good c nm vs env ρ σ' P s' := by
  have kf : ∀ a o, FrA env a → s.heap.get? a = some o → s'.heap.get? a = some o := fun a o ha e => st.keep a o e (fun hd => (g.own a hd).2 ha) (fun h => h)
  refine ⟨fun a o e => st.keep a o (g.base a o e) (fun hd => by rw [(g.own a hd).1] at e; cases e) (fun h => h), ?_, fun x ca hx => ?_, fun i d e => ?_, ok, fun a ha => ?_, g.fresh, fun a ha => ?_⟩
  · obtain ⟨m, hn⟩ := g.ns
    exact ⟨m, hn.at' fun o e => kf _ o (.inl rfl) e⟩
  · obtain ⟨v, o, ho, hd⟩ := g.cell x ca hx
    exact ⟨v, o, kf ca o (.inr ⟨x, hx⟩) ho, hd⟩
  · obtain ⟨hi, v, hv, hr⟩ := g.var i d e
    exact ⟨hi, v, hv.keep kf, Rep.stay (st.stay P) d v hr⟩
  · rcases st.new a ha with h | h
    · exact g.own a h
    · refine ⟨?_, fun hf => ?_⟩
      · cases e : c.b.get? a with
        | none => rfl
        | some o => rw [g.base a o e] at h; cases h
      · obtain ⟨o, ho, _⟩ := g.fr_alive hf
        rw [ho] at h; cases h
  · obtain ⟨o, ho⟩ := g.prot a ha
    exact st.alive a o ho

end Mine

open PySem PyProof.Rows
set_option Elab.async false
namespace Mine

/-- built-in functions and types that are called by their names -/
inductive BI where
  | len | min2 | list | sorted | tupleA
noncomputable def BI.val : BI → Value
  | .len => .builtin "len"
  | .min2 => .builtin "min"
  | .list => .type "list"
  | .sorted => .builtin "sorted"
  | .tupleA => .type "tuple"
/-- methods of lists and dicts -/
inductive LM where
  | insert | pop
noncomputable def LM.name : LM → String
  | .insert => "insert"
  | .pop => "pop"
inductive TY where
  | int | bool | list | tuple
noncomputable def TY.name : TY → String
  | .int => "int"
  | .bool => "bool"
  | .list => "list"
  | .tuple => "tuple"

set_option genInjectivity false
set_option genSizeOf false
set_option genSizeOfSpec false
mutual
inductive PE where
  | var (i : Nat) (p : Pos)
  | cint (i : Int) (p : Pos)
  | cnone (p : Pos)
  | cbool (b : Bool) (p : Pos)
  | bin (op : Operator) (l r : PE) (p : Pos)
  | neg (e : PE) (p : Pos)
  | not (e : PE) (p : Pos)
  | bop (op : BoolOp) (es : List PE) (p : Pos)
  | cmp (op : CmpOp) (l r : PE) (p : Pos)
  | cmp2 (o₁ o₂ : CmpOp) (a b c : PE) (p : Pos)
  | call (g : Nat) (gp : Pos) (args : List PE) (p : Pos)
  | bi (b : BI) (m : Bool) (g : Nat) (gp : Pos) (args : List PE) (p : Pos)
  | isi (e : PE) (ty : TY) (g : Nat) (gp : Pos) (gt : Nat) (tp p : Pos)
  | sub (o i : PE) (p : Pos)
  | slc (m : Bool) (o : PE) (lo hi : Option PE) (sp p : Pos)
  | list (m : Bool) (es : List PE) (p : Pos)
  | tup (es : List PE) (k : Nat) (p : Pos)
  | mmd (mx : Bool) (g : Nat) (gp : Pos) (e : PE) (cp kp p : Pos)
  | sset (g : Nat) (gp : Pos) (g' : Nat) (gp' : Pos) (e : PE) (p' p : Pos)
  | app (o : PE) (ap : Pos) (e : PE) (p : Pos)
  | attr (C : Nat) (o : PE) (name : Str) (p : Pos)
  | meth (C g : Nat) (o : PE) (name : Str) (ap : Pos) (args : List PE) (p : Pos)
  | new (C gi g : Nat) (gp : Pos) (args : List PE) (p : Pos)
  | lm (k : LM) (o : PE) (ap : Pos) (args : List PE) (p : Pos)
  | lrange (m : Bool) (g : Nat) (gp : Pos) (g' : Nat) (gp' : Pos) (e : PE) (p' p : Pos)
  | comp (m : Bool) (elt : PE) (x : Nat) (xp : Pos) (it : IT) (ifs : List PE) (sc : Scope) (fr : List Nat) (p : Pos)
inductive IT where
  | of (e : PE)
  | range (g : Nat) (gp : Pos) (e : PE) (p : Pos)
  | range2 (g : Nat) (gp : Pos) (a b : PE) (p : Pos)
end

inductive PS where
  | assign (x : Nat) (xp : Pos) (e : PE) (p : Pos)
  | expr (e : PE) (p : Pos)
  | ite (t : PE) (b o : List PS) (p : Pos)
  | loop (x : Nat) (xp : Pos) (it : IT) (b : List PS) (p : Pos)
  | while (t : PE) (b : List PS) (p : Pos)
  | ret (e : PE) (p : Pos)
  | sattr (C : Nat) (o : PE) (name : Str) (ap : Pos) (e : PE) (p : Pos)

set_option genInjectivity true
set_option genSizeOf true
set_option genSizeOfSpec true
/-- names: of variables, of globals -/
structure Nms where
  nm : Nat → Str
  gn : Nat → Str

mutual
noncomputable def emb (N : Nms) : PE → Expr
  | .var i p => .Name (N.nm i) p
  | .cint i p => .Constant (.int i) 0 p
  | .cnone p => .Constant .none 0 p
  | .cbool b p => .Constant (.bool b) 0 p
  | .bin op l r p => .BinOp (emb N l) op (emb N r) p
  | .neg e p => .UnaryOp .USub (emb N e) p
  | .not e p => .UnaryOp .Not (emb N e) p
  | .bop op es p => .BoolOp op (embL N es) p
  | .cmp op l r p => .Compare (emb N l) [op] [emb N r] p
  | .cmp2 o₁ o₂ a b c p => .Compare (emb N a) [o₁, o₂] [emb N b, emb N c] p
  | .call g gp args p => .Call (.Name (N.gn g) gp) (embL N args) [] p
  | .bi _ _ g gp args p => .Call (.Name (N.gn g) gp) (embL N args) [] p
  | .isi e _ g gp gt tp p => .Call (.Name (N.gn g) gp) [emb N e, .Name (N.gn gt) tp] [] p
  | .sub o i p => .Subscript (emb N o) (emb N i) p
  | .slc _ o lo hi sp p => .Subscript (emb N o) (.Slice (embO N lo) (embO N hi) Option.none sp) p
  | .list _ es p => .List (embL N es) p
  | .tup es k p => .Tuple (embL N es) k p
  | .mmd _ g gp e cp kp p => .Call (.Name (N.gn g) gp) [emb N e] [⟨some (Str.ofString "default"), .Constant .none 0 cp, kp⟩] p
  | .sset g gp g' gp' e p' p => .Call (.Name (N.gn g) gp) [.Call (.Name (N.gn g') gp') [emb N e] [] p'] [] p
  | .app o ap e p => .Call (.Attribute (emb N o) (Str.ofString "append") ap) [emb N e] [] p
  | .attr _ o name p => .Attribute (emb N o) name p
  | .meth _ _ o name ap args p => .Call (.Attribute (emb N o) name ap) (embL N args) [] p
  | .new _ _ g gp args p => .Call (.Name (N.gn g) gp) (embL N args) [] p
  | .lm k o ap args p => .Call (.Attribute (emb N o) (Str.ofString k.name) ap) (embL N args) [] p
  | .lrange _ g gp g' gp' e p' p => .Call (.Name (N.gn g) gp) [.Call (.Name (N.gn g') gp') [emb N e] [] p'] [] p
  | .comp _ elt x xp it ifs sc _ p => .ListComp (emb N elt) [⟨.Name (N.nm x) xp, embI N it, embL N ifs, 0⟩] sc p
noncomputable def embL (N : Nms) : List PE → List Expr
  | [] => []
  | e :: r => emb N e :: embL N r
noncomputable def embO (N : Nms) : Option PE → Option Expr
  | Option.none => Option.none
  | some e => some (emb N e)
noncomputable def embI (N : Nms) : IT → Expr
  | .of e => emb N e
  | .range g gp e p => .Call (.Name (N.gn g) gp) [emb N e] [] p
  | .range2 g gp a b p => .Call (.Name (N.gn g) gp) [emb N a, emb N b] [] p
end
mutual
noncomputable def embS (N : Nms) : PS → Stmt
  | .assign x xp e p => .Assign [.Name (N.nm x) xp] (emb N e) p
  | .expr e p => .Expr (emb N e) p
  | .ite t b o p => .If (emb N t) (embSs N b) (embSs N o) p
  | .loop x xp it b p => .For (.Name (N.nm x) xp) (embI N it) (embSs N b) [] p
  | .while t b p => .While (emb N t) (embSs N b) [] p
  | .ret e p => .Return (some (emb N e)) p
  | .sattr _ o name ap e p => .Assign [.Attribute (emb N o) name ap] (emb N e) p
noncomputable def embSs (N : Nms) : List PS → List Stmt
  | [] => []
  | s :: r => embS N s :: embSs N r
end

/-! ### what the constructs do to plain data -/

noncomputable def asL (σ : Store) : D → Option (List D)
  | .list xs => some xs
  | .tuple xs => some xs
  | .obj a => match σ a with
    | some (.mlist xs) => some xs
    | _ => Option.none
  | _ => Option.none

noncomputable def truthS (d : D) (σ : Store) (Φ : Bool → Store → Prop) : Prop := match d with
  | .bool b => Φ b σ
  | _ => False

noncomputable def freshIn (σ : Store) (a : Addr) : Prop := σ a = Option.none ∧ ∀ x C fs, σ x ≠ some (.inst C a fs)
noncomputable def Store.set (σ : Store) (a : Addr) (m : MObj) : Store := fun x => if x = a then some m else σ x

/-- a new list: plain, or a mutable one of the store -/
noncomputable def mkS (m : Bool) (ds : List D) (σ : Store) (Φ : D → Store → Prop) : Prop :=
  if m then ∀ a, freshIn σ a → Φ (.obj a) (σ.set a (.mlist ds)) else Φ (.list ds) σ

noncomputable def small : Nat := 1000000

/-! fields of instances, items of dicts -/
noncomputable def getF (name : Str) : List (Str × D) → Option D
  | [] => Option.none
  | (k, x) :: r => if k = name then some x else getF name r
noncomputable def putF (name : Str) (d : D) : List (Str × D) → List (Str × D)
  | [] => [(name, d)]
  | (k, x) :: r => if k = name then (k, d) :: r else (k, x) :: putF name d r
noncomputable def getK (k : Int) : List (Int × D) → Option D
  | [] => Option.none
  | (j, x) :: r => if j = k then some x else getK k r
noncomputable def putK (k : Int) (d : D) : List (Int × D) → List (Int × D)
  | [] => [(k, d)]
  | (j, x) :: r => if j = k then (j, d) :: r else (j, x) :: putK k d r
noncomputable def delK (k : Int) (kvs : List (Int × D)) : List (Int × D) := kvs.filter fun x => decide (x.1 ≠ k)

noncomputable def isTuple : D → Bool
  | .tuple _ => true
  | _ => false

/-- sums of sequences -/
noncomputable def binX (op : Operator) (a b : D) (σ : Store) (Φ : D → Store → Prop) : Prop := match op with
  | .Add => ∃ xs ys, asL σ a = some xs ∧ asL σ b = some ys ∧ xs.length + ys.length ≤ small ∧ ((isTuple a = false ∧ isTuple b = false ∧ Φ (.list (xs ++ ys)) σ) ∨ (isTuple a = true ∧ isTuple b = true ∧ Φ (.tuple (xs ++ ys)) σ))
  | _ => False

noncomputable def intS (a b : D) (K : Int → Int → Prop) : Prop := match a with
  | .int x => match b with
    | .int y => K x y
    | _ => False
  | _ => False
noncomputable def addS (a b : D) (σ : Store) (Φ : D → Store → Prop) : Prop := match a with
  | .int x => intS (.int x) b fun x y => Φ (.int (x + y)) σ
  | .list xs => match b with
    | .list ys => xs.length + ys.length ≤ small ∧ Φ (.list (xs ++ ys)) σ
    | b => binX .Add (.list xs) b σ Φ
  | a => binX .Add a b σ Φ
noncomputable def binS (op : Operator) (a b : D) (σ : Store) (Φ : D → Store → Prop) : Prop := match op with
  | .Add => addS a b σ Φ
  | .Sub => intS a b fun x y => Φ (.int (x - y)) σ
  | .Mult => intS a b fun x y => (x.natAbs < 2 ^ 64 ∨ y.natAbs < 2 ^ 64) ∧ Φ (.int (x * y)) σ
  | .Mod => intS a b fun x y => 0 < y ∧ Φ (.int (x % y)) σ
  | .FloorDiv => intS a b fun x y => (0 < y ∧ y < 10 ^ 50) ∧ Φ (.int (x / y)) σ
  | .Pow => intS a b fun x y => (0 ≤ y ∧ (Builtin.Int.intBits x : Int) * y ≤ 2 ^ 27) ∧ Φ (.int (x ^ y.toNat)) σ
  | _ => False

mutual
/-- equality of plain data as Python sees it, for data without store objects -/
noncomputable def D.py : D → Option PyData
  | .none => some .none
  | .bool b => some (.bool b)
  | .int i => some (.int i)
  | .str x => some (.str x)
  | .tuple xs => (D.pys xs).map .tuple
  | .list xs => (D.pys xs).map .list
  | .obj _ => Option.none
noncomputable def D.pys : List D → Option (List PyData)
  | [] => some []
  | d :: ds => (D.py d).bind fun x => (D.pys ds).map (x :: ·)
end

noncomputable def isNone : D → Option Bool
  | .none => some true
  | .obj _ => some false
  | _ => some false

/-- what equality sees: a mutable list as its items -/
noncomputable def eqP (σ : Store) : D → Option PyData
  | .obj a => match σ a with
    | some (.mlist xs) => (D.pys xs).map .list
    | _ => Option.none
  | d => D.py d

/-- membership of a whole number -/
noncomputable def inS (a b : D) (σ : Store) (K : Bool → Prop) : Prop := match a with
  | .int k => (∃ ns : List Int, asL σ b = some (ns.map D.int) ∧ K (ns.contains k)) ∨ False
  | _ => False
noncomputable def eqG (a b : D) (σ : Store) (K : Bool → Prop) : Prop := ∃ x y, eqP σ a = some x ∧ eqP σ b = some y ∧ SeqAt.shaped x = true ∧ SeqAt.shaped y = true ∧ K (PyData.eqv x y)
noncomputable def eqS' (a b : D) (σ : Store) (K : Bool → Prop) : Prop := match a with
  | .int x => match b with
    | .int y => K (decide (x = y))
    | b => eqG (.int x) b σ K
  | .bool x => match b with
    | .bool y => K (x == y)
    | b => eqG (.bool x) b σ K
  | a => eqG a b σ K
noncomputable def isS (a b : D) (K : Bool → Prop) : Prop := match b with
  | .none => ∃ t, isNone a = some t ∧ K t
  | _ => False
noncomputable def cmpS (op : CmpOp) (a b : D) (σ : Store) (Φ : D → Store → Prop) : Prop := match op with
  | .Lt => intS a b fun x y => Φ (.bool (decide (x < y))) σ
  | .LtE => intS a b fun x y => Φ (.bool (decide (x ≤ y))) σ
  | .Gt => intS a b fun x y => Φ (.bool (decide (x > y))) σ
  | .GtE => intS a b fun x y => Φ (.bool (decide (x ≥ y))) σ
  | .Eq => eqS' a b σ fun t => Φ (.bool t) σ
  | .NotEq => eqS' a b σ fun t => Φ (.bool (!t)) σ
  | .Is => isS a b fun t => Φ (.bool t) σ
  | .IsNot => isS a b fun t => Φ (.bool (!t)) σ
  | .In => inS a b σ fun t => Φ (.bool t) σ
  | .NotIn => inS a b σ fun t => Φ (.bool (!t)) σ

noncomputable def subS (o i : D) (σ : Store) (Φ : D → Store → Prop) : Prop := match i with
  | .int k => ∃ xs, asL σ o = some xs ∧ xs.length ≤ small ∧ ((0 ≤ k ∧ ∃ d, xs[k.toNat]? = some d ∧ Φ d σ) ∨ (k = -1 ∧ ∃ d, xs.getLast? = some d ∧ Φ d σ))
  | _ => False

noncomputable def tyS (ty : TY) (d : D) (σ : Store) : Option Bool := match d with
  | .int _ => match ty with
    | .int => some true
    | .bool => some false
    | _ => Option.none
  | .bool _ => match ty with
    | .int => some true
    | .bool => some true
    | _ => Option.none
  | .list _ => match ty with
    | .list => some true
    | .tuple => some false
    | _ => Option.none
  | .tuple _ => match ty with
    | .list => some false
    | .tuple => some true
    | _ => Option.none
  | .obj a => match ty with
    | .list => match σ a with
      | some (.mlist _) => some true
      | _ => Option.none
    | _ => Option.none
  | _ => Option.none

noncomputable def dOpt : Option Int → D
  | Option.none => .none
  | some i => .int i
/-- max or min of a list, None for an empty one -/
noncomputable def mmS (mx : Bool) (d : D) (σ : Store) (Φ : D → Store → Prop) : Prop := ∃ ns : List Int, asL σ d = some (ns.map D.int) ∧ isTuple d = false ∧ Φ (dOpt (if mx then maxOf ns else minOf ns)) σ
/-- the columns of a list, once each, rising -/
noncomputable def ssetS (d : D) (σ : Store) (Φ : D → Store → Prop) : Prop := ∃ ns : List Nat, asL σ d = some (ns.map fun (k : Nat) => D.int k) ∧ isTuple d = false ∧ (∀ k ∈ ns, k < 6) ∧ Φ (.list ((keysOf (bitsOf ns)).map fun (k : Nat) => D.int k)) σ
noncomputable def isML (d : D) (σ : Store) : Prop := match d with
  | .obj a => ∃ xs, σ a = some (.mlist xs)
  | _ => False
noncomputable def appS (d e : D) (σ : Store) (Φ : D → Store → Prop) : Prop := match d with
  | .obj a => ∃ xs, σ a = some (.mlist xs) ∧ xs.length ≤ small ∧ Φ .none (σ.set a (.mlist (xs ++ [e])))
  | _ => False
noncomputable def oneS (ds : List D) (K : D → Prop) : Prop := match ds with
  | [d] => K d
  | _ => False
noncomputable def twoS (ds : List D) (K : D → D → Prop) : Prop := match ds with
  | [d, e] => K d e
  | _ => False
noncomputable def intK (d : D) (K : Int → Prop) : Prop := match d with
  | .int i => K i
  | _ => False
/-- methods of lists and dicts -/
noncomputable def lmOk (k : LM) (d : D) (σ : Store) : Prop := match k with
  | _ => ∃ a xs, d = .obj a ∧ σ a = some (.mlist xs)
noncomputable def lmS (k : LM) (d : D) (ds : List D) (σ : Store) (Φ : D → Store → Prop) : Prop := match k with
  | .insert => twoS ds fun i e => intK i fun i => ∃ a xs, d = .obj a ∧ σ a = some (.mlist xs) ∧ 0 ≤ i ∧ i ≤ xs.length ∧ xs.length ≤ small ∧ Φ .none (σ.set a (.mlist (xs.take i.toNat ++ e :: xs.drop i.toNat)))
  | .pop => oneS ds fun i => intK i fun i => ∃ a xs e, d = .obj a ∧ σ a = some (.mlist xs) ∧ 0 ≤ i ∧ xs[i.toNat]? = some e ∧ xs.length ≤ small ∧ Φ e (σ.set a (.mlist (xs.eraseIdx i.toNat)))
noncomputable def instS (C : Nat) (name : Str) (d : D) (σ : Store) : Prop := ∃ a dx fs, d = .obj a ∧ σ a = some (.inst C dx fs) ∧ getF name fs = Option.none
noncomputable def attrS (C : Nat) (name : Str) (d : D) (σ : Store) (Φ : D → Store → Prop) : Prop := ∃ a dx fs x, d = .obj a ∧ σ a = some (.inst C dx fs) ∧ getF name fs = some x ∧ Φ x σ
noncomputable def subdS (o i : D) (σ : Store) (Φ : D → Store → Prop) : Prop := ∃ a kvs k x, o = .obj a ∧ σ a = some (.mdict kvs) ∧ i = .int k ∧ getK k kvs = some x ∧ Φ x σ
noncomputable def skeysS (m : Bool) (d : D) (σ : Store) (Φ : D → Store → Prop) : Prop := ∃ a kvs ms, d = .obj a ∧ σ a = some (.mdict kvs) ∧ kvs.length ≤ small ∧ List.Perm ms (kvs.map (·.1)) ∧ ms.Pairwise (· ≤ ·) ∧ mkS m (ms.map D.int) σ Φ
noncomputable def setS (C : Nat) (name : Str) (o d : D) (σ : Store) (K : Store → Prop) : Prop := ∃ a dx fs, o = .obj a ∧ σ a = some (.inst C dx fs) ∧ fs.length ≤ 900 ∧ K (σ.set a (.inst C dx (putF name d fs)))
noncomputable def stoS (o i d : D) (σ : Store) (K : Store → Prop) : Prop := match i with
  | .int j => (∃ a xs, o = .obj a ∧ σ a = some (.mlist xs) ∧ 0 ≤ j ∧ j < xs.length ∧ xs.length ≤ small ∧ K (σ.set a (.mlist (xs.set j.toNat d)))) ∨
      (∃ a kvs, o = .obj a ∧ σ a = some (.mdict kvs) ∧ kvs.length ≤ small ∧ K (σ.set a (.mdict (putK j d kvs))))
  | _ => False

noncomputable def biS (b : BI) (m : Bool) (ds : List D) (σ : Store) (Φ : D → Store → Prop) : Prop := match b with
  | .len => oneS ds fun d => ∃ xs, asL σ d = some xs ∧ xs.length ≤ small ∧ Φ (.int xs.length) σ
  | .min2 => twoS ds fun a b => intS a b fun x y => Φ (.int (if y < x then y else x)) σ
  | .list => oneS ds fun d => ∃ xs, asL σ d = some xs ∧ xs.length ≤ small ∧ mkS m xs σ Φ
  | .sorted => oneS ds fun d => ∃ ns ms : List Int, asL σ d = some (ns.map D.int) ∧ isTuple d = false ∧ ns.length ≤ small ∧ ms.Perm ns ∧ ms.Pairwise (· ≤ ·) ∧ mkS m (ms.map D.int) σ Φ
  | .tupleA => oneS ds fun d => ∃ xs, asL σ d = some xs ∧ isTuple d = false ∧ xs.length ≤ small ∧ Φ (.tuple xs) σ

noncomputable def partI : Option D → Option (Option Int)
  | Option.none => some Option.none
  | some (.int k) => some (some k)
  | _ => Option.none
noncomputable def sliceD (xs : List D) (lo hi : Option Int) : List D :=
  (xs.drop (lo.elim 0 (clipAt xs.length))).take (hi.elim xs.length (clipAt xs.length) - lo.elim 0 (clipAt xs.length))
noncomputable def slcS (m : Bool) (o : D) (lo hi : Option D) (σ : Store) (Φ : D → Store → Prop) : Prop :=
  ∃ xs l h, asL σ o = some xs ∧ isTuple o = false ∧ partI lo = some l ∧ partI hi = some h ∧ xs.length ≤ small ∧ mkS m (sliceD xs l h) σ Φ

/-- results of statements -/
inductive Res where
  | next (ρ : PEnv) (σ : Store)
  | ret (d : D) (σ : Store)
  | brk (ρ : PEnv) (σ : Store)
  | cont (ρ : PEnv) (σ : Store)

/-- the iterable's list is not changed within the loop -/
noncomputable def keepS (d : D) (ds : List D) (σ : Store) : Prop := match d with
  | .obj a => σ a = some (.mlist ds)
  | _ => True

noncomputable def forS (step : D → PEnv → Store → (Res → Prop) → Prop) (keep : Store → Prop) : List D → PEnv → Store → (Res → Prop) → Prop
  | [], ρ, σ, Φ => Φ (.next ρ σ)
  | d :: ds, ρ, σ, Φ => step d ρ σ fun r => match r with
    | .next ρ' σ' => keep σ' ∧ forS step keep ds ρ' σ' Φ
    | .cont ρ' σ' => keep σ' ∧ forS step keep ds ρ' σ' Φ
    | .brk ρ' σ' => Φ (.next ρ' σ')
    | .ret d' σ' => Φ (.ret d' σ')

noncomputable def compS (step : D → Store → (Option D → Store → Prop) → Prop) (keep : Store → Prop) : List D → Store → List D → (List D → Store → Prop) → Prop
  | [], σ, acc, Ψ => Ψ acc σ
  | d :: ds, σ, acc, Ψ => step d σ fun o σ' => keep σ' ∧ compS step keep ds σ' (acc ++ o.toList) Ψ

noncomputable def onlyGo (l : List Nat) : Nat → PEnv → PEnv
  | _, [] => []
  | i, d :: r => (if l.contains i then d else Option.none) :: onlyGo l (i + 1) r
noncomputable def PEnv.only (ρ : PEnv) (l : List Nat) : PEnv := onlyGo l 0 ρ

noncomputable abbrev Spec := List D → Store → (D → Store → Prop) → Prop
noncomputable abbrev ETr := PEnv → Store → (D → Store → Prop) → Prop
noncomputable abbrev TTr := PEnv → Store → (Bool → Store → Prop) → Prop
/-- value and test of an expression -/
structure VT where
  v : ETr
  t : TTr
noncomputable def VT.of (v : ETr) : VT := ⟨v, fun ρ σ Φ => v ρ σ fun d σ' => truthS d σ' Φ⟩

noncomputable def bopV (op : BoolOp) : List VT → ETr
  | [], _, _, _ => False
  | [x], ρ, σ, Φ => x.v ρ σ Φ
  | x :: y :: r, ρ, σ, Φ => x.v ρ σ fun d σ' => truthS d σ' fun b σ'' => match op with
    | .And => (b = false → Φ d σ'') ∧ (b = true → bopV op (y :: r) ρ σ'' Φ)
    | .Or => (b = true → Φ d σ'') ∧ (b = false → bopV op (y :: r) ρ σ'' Φ)
noncomputable def bopT (op : BoolOp) : List VT → TTr
  | [], _, σ, Φ => Φ (op == .And) σ
  | x :: r, ρ, σ, Φ => x.t ρ σ fun b σ' => match op with
    | .And => (b = false → Φ false σ') ∧ (b = true → bopT op r ρ σ' Φ)
    | .Or => (b = true → Φ true σ') ∧ (b = false → bopT op r ρ σ' Φ)
noncomputable def argsV : List VT → PEnv → Store → (List D → Store → Prop) → Prop
  | [], _, σ, Φ => Φ [] σ
  | x :: r, ρ, σ, Φ => x.v ρ σ fun d σ' => argsV r ρ σ' fun ds σ'' => Φ (d :: ds) σ''
/-- tests of a comprehension -/
noncomputable def ifsT : List VT → TTr
  | [], _, σ, Φ => Φ true σ
  | x :: r, ρ, σ, Φ => x.t ρ σ fun b σ' => (b = true → ifsT r ρ σ' Φ) ∧ (b = false → Φ false σ')

noncomputable def rangeD2 (a b : Int) : List D := (List.range (b - a).toNat).map fun (i : Nat) => D.int (a + i)
noncomputable def newS (C : Nat) (Sp : Spec) (ds : List D) (σ : Store) (Φ : D → Store → Prop) : Prop :=
  ∀ a dx, freshIn σ a → freshIn σ dx → a ≠ dx → Sp (.obj a :: ds) (σ.set a (.inst C dx [])) fun d σ' => d = .none ∧ Φ (.obj a) σ'
noncomputable def rangeD (n : Int) : List D := (List.range n.toNat).map fun (i : Nat) => D.int i

mutual
noncomputable def vc (S : Nat → Spec) : PE → VT
  | .var i _ => .of fun ρ σ Φ => match ρ.at i with
    | some d => Φ d σ
    | Option.none => False
  | .cint i _ => .of fun _ σ Φ => Φ (.int i) σ
  | .cnone _ => .of fun _ σ Φ => Φ .none σ
  | .cbool b _ => .of fun _ σ Φ => Φ (.bool b) σ
  | .bin op l r _ => .of fun ρ σ Φ => (vc S l).v ρ σ fun a σ₁ => (vc S r).v ρ σ₁ fun b σ₂ => binS op a b σ₂ Φ
  | .neg e _ => .of fun ρ σ Φ => (vc S e).v ρ σ fun d σ' => match d with
    | .int i => Φ (.int (-i)) σ'
    | _ => False
  | .not e _ => ⟨fun ρ σ Φ => (vc S e).v ρ σ fun d σ' => truthS d σ' fun b σ'' => Φ (.bool (!b)) σ'', fun ρ σ Φ => (vc S e).t ρ σ fun b σ' => Φ (!b) σ'⟩
  | .bop op es _ => ⟨bopV op (vcL S es), bopT op (vcL S es)⟩
  | .cmp op l r _ => .of fun ρ σ Φ => (vc S l).v ρ σ fun a σ₁ => (vc S r).v ρ σ₁ fun b σ₂ => cmpS op a b σ₂ Φ
  | .cmp2 o₁ o₂ a b c _ => .of fun ρ σ Φ => (vc S a).v ρ σ fun x σ₁ => (vc S b).v ρ σ₁ fun y σ₂ => cmpS o₁ x y σ₂ fun d σ₃ =>
      truthS d σ₃ fun t σ₄ => (t = false → Φ (.bool false) σ₄) ∧ (t = true → (vc S c).v ρ σ₄ fun z σ₅ => cmpS o₂ y z σ₅ Φ)
  | .call g _ args _ => .of fun ρ σ Φ => argsV (vcL S args) ρ σ fun ds σ' => S g ds σ' Φ
  | .bi b m _ _ args _ => .of fun ρ σ Φ => argsV (vcL S args) ρ σ fun ds σ' => biS b m ds σ' Φ
  | .isi e ty _ _ _ _ _ => .of fun ρ σ Φ => (vc S e).v ρ σ fun d σ' => ∃ t, tyS ty d σ' = some t ∧ Φ (.bool t) σ'
  | .sub o i _ => .of fun ρ σ Φ => (vc S o).v ρ σ fun a σ₁ => (vc S i).v ρ σ₁ fun b σ₂ => subS a b σ₂ Φ
  | .slc m o lo hi _ _ => .of fun ρ σ Φ => (vc S o).v ρ σ fun a σ₁ => vcO S lo ρ σ₁ fun l σ₂ => vcO S hi ρ σ₂ fun h σ₃ => slcS m a l h σ₃ Φ
  | .list m es _ => .of fun ρ σ Φ => argsV (vcL S es) ρ σ fun ds σ' => Nat.ble ds.length small = true ∧ mkS m ds σ' Φ
  | .tup es _ _ => .of fun ρ σ Φ => argsV (vcL S es) ρ σ fun ds σ' => Nat.ble ds.length small = true ∧ Φ (.tuple ds) σ'
  | .mmd mx _ _ e _ _ _ => .of fun ρ σ Φ => (vc S e).v ρ σ fun d σ' => mmS mx d σ' Φ
  | .sset _ _ _ _ e _ _ => .of fun ρ σ Φ => (vc S e).v ρ σ fun d σ' => ssetS d σ' Φ
  | .app o _ e _ => .of fun ρ σ Φ => (vc S o).v ρ σ fun a σ₁ => isML a σ₁ ∧ (vc S e).v ρ σ₁ fun b σ₂ => appS a b σ₂ Φ
  | .attr C o name _ => .of fun ρ σ Φ => (vc S o).v ρ σ fun d σ' => attrS C name d σ' Φ
  | .meth C g o name _ args _ => .of fun ρ σ Φ => (vc S o).v ρ σ fun d σ₁ => instS C name d σ₁ ∧ argsV (vcL S args) ρ σ₁ fun ds σ₂ => S g (d :: ds) σ₂ Φ
  | .new C gi _ _ args _ => .of fun ρ σ Φ => argsV (vcL S args) ρ σ fun ds σ₁ => newS C (S gi) ds σ₁ Φ
  | .lm k o _ args _ => .of fun ρ σ Φ => (vc S o).v ρ σ fun d σ₁ => lmOk k d σ₁ ∧ argsV (vcL S args) ρ σ₁ fun ds σ₂ => lmS k d ds σ₂ Φ
  | .lrange m _ _ _ _ e _ _ => .of fun ρ σ Φ => (vc S e).v ρ σ fun d σ' => match d with
    | .int n => n ≤ small ∧ -small ≤ n ∧ mkS m (rangeD n) σ' Φ
    | _ => False
  | .comp m elt x _ it ifs _ fr _ => .of fun ρ σ Φ => vcI S it ρ σ fun d ds σ₁ => ds.length ≤ small ∧
      compS (fun e σ' K => ifsT (vcL S ifs) ((ρ.only fr).put x e) σ' fun b σ'' => (b = true → (vc S elt).v ((ρ.only fr).put x e) σ'' fun r σ₃ => K (some r) σ₃) ∧ (b = false → K Option.none σ'')) (keepS d ds) ds σ₁ []
        fun out σ₂ => mkS m out σ₂ Φ
noncomputable def vcL (S : Nat → Spec) : List PE → List VT
  | [] => []
  | e :: r => vc S e :: vcL S r
noncomputable def vcO (S : Nat → Spec) : Option PE → PEnv → Store → (Option D → Store → Prop) → Prop
  | Option.none, _, σ, Φ => Φ Option.none σ
  | some e, ρ, σ, Φ => (vc S e).v ρ σ fun d σ' => Φ (some d) σ'
noncomputable def vcI (S : Nat → Spec) : IT → PEnv → Store → (D → List D → Store → Prop) → Prop
  | .of e, ρ, σ, Φ => (vc S e).v ρ σ fun d σ' => ∃ ds, asL σ' d = some ds ∧ Φ d ds σ'
  | .range _ _ e _, ρ, σ, Φ => (vc S e).v ρ σ fun d σ' => match d with
    | .int n => n ≤ small ∧ -small ≤ n ∧ Φ .none (rangeD n) σ'
    | _ => False
  | .range2 _ _ a b _, ρ, σ, Φ => (vc S a).v ρ σ fun d σ₁ => (vc S b).v ρ σ₁ fun e σ₂ => match d, e with
    | .int x, .int y => -small ≤ x ∧ x ≤ small ∧ -small ≤ y ∧ y ≤ small ∧ Φ .none (rangeD2 x y) σ₂
    | _, _ => False
end

mutual
noncomputable def vcS (S : Nat → Spec) : PS → PEnv → Store → (Res → Prop) → Prop
  | .assign x _ e _, ρ, σ, Φ => (vc S e).v ρ σ fun d σ' => Φ (.next (ρ.put x d) σ')
  | .expr e _, ρ, σ, Φ => (vc S e).v ρ σ fun _ σ' => Φ (.next ρ σ')
  | .ite t b o _, ρ, σ, Φ => (vc S t).t ρ σ fun c σ' => (c = true → vcSs S b ρ σ' Φ) ∧ (c = false → vcSs S o ρ σ' Φ)
  | .loop x _ it b _, ρ, σ, Φ => vcI S it ρ σ fun d ds σ₁ => forS (fun e ρ' σ' Ψ => vcSs S b (ρ'.put x e) σ' Ψ) (keepS d ds) ds ρ σ₁ Φ
  | .while t b _, ρ, σ, Φ => ∃ (J : Nat → PEnv → Store → Prop) (n : Nat), J n ρ σ ∧ ∀ n ρ σ, J n ρ σ → (vc S t).t ρ σ fun c σ' =>
      (c = true → vcSs S b ρ σ' fun r => match r with
        | .next ρ'' σ'' => ∃ m, m < n ∧ J m ρ'' σ''
        | .cont ρ'' σ'' => ∃ m, m < n ∧ J m ρ'' σ''
        | .brk ρ'' σ'' => Φ (.next ρ'' σ'')
        | .ret d σ'' => Φ (.ret d σ'')) ∧ (c = false → Φ (.next ρ σ'))
  | .ret e _, ρ, σ, Φ => (vc S e).v ρ σ fun d σ' => Φ (.ret d σ')
  | .sattr C o name _ e _, ρ, σ, Φ => (vc S e).v ρ σ fun d σ₁ => (vc S o).v ρ σ₁ fun x σ₂ => setS C name x d σ₂ fun σ₃ => Φ (.next ρ σ₃)
noncomputable def vcSs (S : Nat → Spec) : List PS → PEnv → Store → (Res → Prop) → Prop
  | [], ρ, σ, Φ => Φ (.next ρ σ)
  | s :: r, ρ, σ, Φ => vcS S s ρ σ fun res => match res with
    | .next ρ' σ' => vcSs S r ρ' σ' Φ
    | .ret d σ' => Φ (.ret d σ')
    | .brk ρ' σ' => Φ (.brk ρ' σ')
    | .cont ρ' σ' => Φ (.cont ρ' σ')
end
end Mine

open PySem PyProof.Rows
set_option Elab.async false
namespace Mine

noncomputable def WPv (c : Cx) (A : Around) (nm : Nat → Str) (vs : List Nat) (env : Env) (ρ : PEnv) (σ : Store) (t : Sem Value) (Φ : D → Store → Prop) : Prop :=
  ∀ P s, Good c nm vs env ρ σ P s → ∀ (Q : Value → Shared → Prop) (E : Value → Shared → Prop),
    (∀ v d σ' s', Φ d σ' → Step noF σ σ' s s' → StoreOk σ' P s'.heap → Rep (nd σ' P) s'.heap d v → Q v s') → wpAny c.M A t Q E s
noncomputable def WPb (c : Cx) (A : Around) (nm : Nat → Str) (vs : List Nat) (env : Env) (ρ : PEnv) (σ : Store) (t : Sem Bool) (Φ : Bool → Store → Prop) : Prop :=
  ∀ P s, Good c nm vs env ρ σ P s → ∀ (Q : Bool → Shared → Prop) (E : Value → Shared → Prop),
    (∀ b σ' s', Φ b σ' → Step noF σ σ' s s' → StoreOk σ' P s'.heap → Q b s') → wpAny c.M A t Q E s
noncomputable def WPl (c : Cx) (A : Around) (nm : Nat → Str) (vs : List Nat) (env : Env) (ρ : PEnv) (σ : Store) (t : Sem (List Value)) (Φ : List D → Store → Prop) : Prop :=
  ∀ P s, Good c nm vs env ρ σ P s → ∀ (Q : List Value → Shared → Prop) (E : Value → Shared → Prop),
    (∀ v d σ' s', Φ d σ' → Step noF σ σ' s s' → StoreOk σ' P s'.heap → RepL (nd σ' P) s'.heap d v → Q v s') → wpAny c.M A t Q E s

theorem Stay.of_keep {N : Addr → Prop} {h h' : Heap} (k : ∀ a o, h.get? a = some o → h'.get? a = some o) : Stay N N h h' := fun a o _ _ hN ho _ => ⟨k a o ho, hN⟩

theorem MRep.stay {σ σ' : Store} {P P' : Addr → Prop} {h h' : Heap} (k : Stay (nd σ P) (nd σ' P') h h') {a : Addr} {mo : MObj} (kd : ∀ b o, (b = a ∨ ∃ C fs, mo = .inst C b fs) → h.get? b = some o → h'.get? b = some o)
    (x : MRep σ P h a mo) : MRep σ' P' h' a mo := by
  cases mo with
  | mlist ds =>
    obtain ⟨vs, ⟨n, ho⟩, hl⟩ := x
    exact ⟨vs, ⟨n, kd a _ (.inl rfl) ho⟩, RepL.stay k ds _ hl⟩
  | inst C dx fs =>
    obtain ⟨n, es, vs, h1, h2, h3, h4, h5, h6⟩ := x
    exact ⟨n, es, vs, kd a _ (.inl rfl) h1, kd dx _ (.inr ⟨C, fs, rfl⟩) h2, h3, h4, RepL.stay k _ _ h5, h6⟩
  | mdict kvs =>
    obtain ⟨n, es, vs, h1, h2, h3, h4⟩ := x
    exact ⟨n, es, vs, kd a _ (.inl rfl) h1, h2, RepL.stay k _ _ h3, h4⟩

theorem StoreOk.keeps {σ P h h'} (x : StoreOk σ P h) (k : ∀ a o, h.get? a = some o → h'.get? a = some o) : StoreOk σ P h' :=
  ⟨fun a mo e => (x.rep a mo e).stay (Stay.of_keep k) (fun b o _ ho => k b o ho), x.apart, x.free⟩

theorem StoreOk.alive {σ P h} (x : StoreOk σ P h) {a : Addr} (hd : dom σ a) : ∃ o, h.get? a = some o := by
  rcases hd with h1 | ⟨y, C, fs, h1⟩
  · cases e : σ a with
    | none => exact absurd e h1
    | some mo =>
      have := x.rep a mo e
      cases mo with
      | mlist ds => obtain ⟨vs, ⟨n, ho⟩, _⟩ := this; exact ⟨_, ho⟩
      | inst C dx fs => obtain ⟨n, es, vs, h1, _⟩ := this; exact ⟨_, h1⟩
      | mdict kvs => obtain ⟨n, es, vs, h1, _⟩ := this; exact ⟨_, h1⟩
  · obtain ⟨n, es, vs, _, h2, _⟩ := x.rep y _ h1
    exact ⟨_, h2⟩

theorem keeps_toks (s : Shared) (t : Nat) : Keeps s { s with toks := t } := ⟨s.heap, t, rfl, fun _ _ e => e⟩
theorem keeps_push (s : Shared) (o : Obj) (t : Nat) : Keeps s { s with heap := s.heap.push o, toks := t } := ⟨_, t, rfl, fun _ _ e => Heap.get?_push_of_some _ e⟩
theorem keeps_push' (s : Shared) (o : Obj) : Keeps s { s with heap := s.heap.push o } := ⟨_, s.toks, rfl, fun _ _ e => Heap.get?_push_of_some _ e⟩
theorem keeps_refl (s : Shared) : Keeps s s := ⟨s.heap, s.toks, rfl, fun _ _ e => e⟩
theorem keeps_heap {s s' : Shared} (k : Keeps s s') : ∀ a o, s.heap.get? a = some o → s'.heap.get? a = some o := by obtain ⟨h', tk, rfl, h⟩ := k; exact h

theorem get?_size_none (h : Heap) : h.get? h.objs.size = none := by
  cases e : h.get? h.objs.size with
  | none => rfl
  | some o => exact absurd (Heap.lt_size e) (Nat.lt_irrefl _)

theorem Good.nd_of_none {c nm vs env ρ σ P s} (g : Good c nm vs env ρ σ P s) {a : Addr} (ha : s.heap.get? a = none) : nd σ P a := by
  refine ⟨fun hd => ?_, fun hp => ?_⟩
  · obtain ⟨o, ho⟩ := g.st.alive hd
    rw [ha] at ho; cases ho
  · obtain ⟨o, ho⟩ := g.prot _ hp
    rw [ha] at ho; cases ho
/-- ends with plain data where all is kept -/
theorem fin_keeps {c nm vs env ρ σ P s s'} {Q : Value → Shared → Prop} {Φ : D → Store → Prop} {d : D} {v : Value} (g : Good c nm vs env ρ σ P s)
    (hQ : ∀ v d σ' s', Φ d σ' → Step noF σ σ' s s' → StoreOk σ' P s'.heap → Rep (nd σ' P) s'.heap d v → Q v s') (hΦ : Φ d σ) (k : Keeps s s') (hr : Rep (nd σ P) s'.heap d v) : Q v s' :=
  hQ v d σ s' hΦ (Step.of_keeps k) (g.st.keeps (keeps_heap k)) hr

theorem rep_int {N h i t} : Rep N h (.int i) (.int i t) := by simp [Rep]
theorem rep_bool {N h b} : Rep N h (.bool b) (.bool b) := by simp [Rep]
theorem rep_none {N h} : Rep N h .none .none := by simp [Rep]
theorem rep_str {N h x t} : Rep N h (.str x) (.str x t) := by simp [Rep]
theorem Rep.keeps {N h h' d v} (x : Rep N h d v) (k : ∀ a o, h.get? a = some o → h'.get? a = some o) : Rep N h' d v := Rep.stay (Stay.of_keep k) d v x
theorem RepL.keeps {N h h' d v} (x : RepL N h d v) (k : ∀ a o, h.get? a = some o → h'.get? a = some o) : RepL N h' d v := RepL.stay (Stay.of_keep k) d v x

section
variable {c : Cx} {A : Around} {nm : Nat → Str} {vs : List Nat} {env : Env} {ρ : PEnv} {σ : Store}

theorem R_var {i : Nat} {p : Pos} {Φ : D → Store → Prop} {d : D} (ok : EnvOk nm vs env) (hd : ρ.at i = some d) (h : Φ d σ) : WPv c A nm vs env ρ σ (eval (.Name (nm i) p) env) Φ := by
  intro P s g Q E hQ
  obtain ⟨hi, v, hv, hr⟩ := g.var i d hd
  refine wpAny_Name ?_ (ok.dbg i hi)
  have fin : Q v s := fin_keeps g hQ h (keeps_refl s) hr
  rcases hv with ⟨hk, m, hn, hm⟩ | ⟨hk, ca, hc, hcell⟩
  · exact wpAny_loadName_local ok.kind hk hn hm fin
  · exact wpAny_loadName_cell ok.kind hk hc hcell fin

theorem R_int {i : Int} {k : Nat} {p : Pos} {Φ : D → Store → Prop} (h : Φ (.int i) σ) : WPv c A nm vs env ρ σ (eval (.Constant (.int i) k p) env) Φ := fun _ s g _ _ hQ =>
  wpAny_Constant_int (fin_keeps g hQ h (keeps_toks s _) rep_int)
theorem R_none {k : Nat} {p : Pos} {Φ : D → Store → Prop} (h : Φ .none σ) : WPv c A nm vs env ρ σ (eval (.Constant .none k p) env) Φ := fun _ s g _ _ hQ =>
  wpAny_Constant_none (fin_keeps g hQ h (keeps_refl s) rep_none)
theorem R_bool {b : Bool} {k : Nat} {p : Pos} {Φ : D → Store → Prop} (h : Φ (.bool b) σ) : WPv c A nm vs env ρ σ (eval (.Constant (.bool b) k p) env) Φ := fun _ s g _ _ hQ =>
  wpAny_Constant_bool (fin_keeps g hQ h (keeps_refl s) rep_bool)
/-- a global name -/
theorem R_glob {x : Str} {p : Pos} {v : Value} (ok : EnvOk nm vs env) (hx : env.kindOf x = some .globalImplicit) (hd : (x == ("__debug__" : Str)) = false) (hv : c.glob x = some v)
    {P s} (g : Good c nm vs env ρ σ P s) {Q : Value → Shared → Prop} {E : Value → Shared → Prop} (hQ : Q v s) : wpAny c.M A (eval (.Name x p) env) Q E s := by
  refine Calls.Name_function_global ok.kind hx ?_ hd
  have hg : s.heap.Ns env.globals c.mg := by rw [ok.globals]; exact c.hg.keeps g.base
  have hb : s.heap.Ns env.builtins c.mb := by rw [ok.builtins]; exact c.hb.keeps g.base
  unfold Cx.glob at hv
  cases hm : c.mg x with
  | some u => rw [hm] at hv; cases hv; exact Calls.loadGlobal_global hg hm hQ
  | none => rw [hm] at hv; exact Calls.loadGlobal_builtin hg hm hb hv hQ

/-- two in a row -/
theorem R_two {t₁ t₂ : Sem Value} {Ψ₁ : D → Store → Prop} {k : Value → Value → Shared → Prop} {P s} (g : Good c nm vs env ρ σ P s) {E : Value → Shared → Prop} {Φ : D → D → Store → Prop}
    (h₁ : WPv c A nm vs env ρ σ t₁ Ψ₁) (h₂ : ∀ d σ', Ψ₁ d σ' → WPv c A nm vs env ρ σ' t₂ (Φ d))
    (hk : ∀ v₁ v₂ d₁ d₂ σ' s', Φ d₁ d₂ σ' → Step noF σ σ' s s' → Good c nm vs env ρ σ' P s' → Rep (nd σ' P) s'.heap d₁ v₁ → Rep (nd σ' P) s'.heap d₂ v₂ → k v₁ v₂ s') :
    wpAny c.M A t₁ (fun v₁ s₁ => wpAny c.M A t₂ (fun v₂ s₂ => k v₁ v₂ s₂) E s₁) E s := by
  refine h₁ P s g _ _ fun v₁ d₁ σ₁ s₁ a₁ st₁ ok₁ r₁ => ?_
  have g₁ := g.next st₁ ok₁
  refine h₂ d₁ σ₁ a₁ P s₁ g₁ _ _ fun v₂ d₂ σ₂ s₂ a₂ st₂ ok₂ r₂ => ?_
  exact hk v₁ v₂ d₁ d₂ σ₂ s₂ a₂ (st₁.trans st₂) (g₁.next st₂ ok₂) (Rep.stay (st₂.stay P) _ _ r₁) r₂

theorem truthS_sound {d : D} {v : Value} {Φ : Bool → Store → Prop} {P s} {Q : Bool → Shared → Prop} {E : Value → Shared → Prop} (h : truthS d σ Φ) (hr : Rep (nd σ P) s.heap d v) (hQ : ∀ b, Φ b σ → Q b s) : wpAny c.M A (truthy v) Q E s := by
  cases d <;> simp only [truthS] at h
  simp only [Rep] at hr
  subst hr
  exact wpAny_truthy_bool (hQ _ h)
end
end Mine

open PySem PyProof.Rows
set_option Elab.async false
namespace Mine

theorem sizeLine_small : small ≤ sizeLine := by decide
theorem small_63 {n : Nat} (h : n ≤ small) : ((n : Nat) : Int) < 2 ^ 63 := by unfold small at h; omega

theorem big_9000 : 10 ^ 50 ≤ 2 ^ 9000 := Nat.le_trans (by decide : 10 ^ 50 ≤ 2 ^ 200) (Nat.pow_le_pow_right (by decide) (by decide))

theorem add_list_any {prog : Program} {w : World} {A : Around} {E : Value → Shared → Prop} {s : Shared} {l b : Addr} {its its2 : Array Value} {Q : Value → Shared → Prop} (hl : s.heap.IsList l its) (hb : s.heap.IsList b its2)
    (h : Q (.ref s.heap.objs.size) { s with heap := s.heap.push { cls := .type "list", data := .seq (its ++ its2) } }) (hsz : its.size + its2.size ≤ sizeLine) : wpAny (model prog w) A (binaryOp .Add (.ref l) (.ref b)) Q E s := by
  obtain ⟨⟨cls, dd, data, sl⟩, ho, hc, n, hd⟩ := id hl
  obtain ⟨⟨cls2, dd2, data2, sl2⟩, ho2, hc2, n2, hd2⟩ := id hb
  simp only at hc hd hc2 hd2
  subst hc hd hc2 hd2
  exact concat_meets ⟨_, ho, rfl⟩ ⟨_, ho2, rfl⟩ noFill_list_add seq_list_add PySem.F.slot_list_add PySem.F.entry_list_add (PySem.F.args_list_add_2 _ _) (list_addW l b its its2 n n2 dd dd2 sl sl2 hsz) ⟨ho, ho2, h⟩

section
variable {c : Cx} {A : Around} {nm : Nat → Str} {vs : List Nat} {env : Env} {ρ : PEnv} {σ : Store} {P : Addr → Prop} {s : Shared} {Q : Value → Shared → Prop} {E : Value → Shared → Prop} {Φ : D → Store → Prop}

theorem newList_rep (g : Good c nm vs env ρ σ P s) {ds : List D} {us : List Value} {h' : Heap} (k : ∀ a o, s.heap.get? a = some o → h'.get? a = some o) {a : Addr} (ha : s.heap.get? a = none) {n : Nat}
    (hn : ∃ o, h'.get? a = some o ∧ o.cls = .type "list" ∧ o.data = .seq us.toArray n) (hr : RepL (nd σ P) s.heap ds us) : nd σ P a ∧ Rep (nd σ P) h' (.list ds) (.ref a) := by
  have hN : nd σ P a := g.nd_of_none ha
  obtain ⟨o, ho, hc, hd⟩ := hn
  refine ⟨hN, ?_⟩
  simp only [Rep]
  exact ⟨a, us.toArray, rfl, hN, ⟨o, ho, hc, n, hd⟩, by simpa using RepL.keeps hr k⟩

theorem dom_set {σ : Store} {a b : Addr} {ds : List D} : dom (σ.set a (.mlist ds)) b → dom σ b ∨ b = a := by
  intro h
  rcases h with h | ⟨x, C, fs, h⟩
  · unfold Store.set at h
    by_cases e : b = a
    · exact .inr e
    · rw [if_neg e] at h; exact .inl (.inl h)
  · unfold Store.set at h
    by_cases e : x = a
    · rw [if_pos e] at h; cases h
    · rw [if_neg e] at h; exact .inl (.inr ⟨x, C, fs, h⟩)

/-- a new list becomes a store object -/
theorem alloc_mut (g : Good c nm vs env ρ σ P s) {ds : List D} {us : List Value} {s' : Shared} (k : Keeps s s') {a : Addr} (ha : s.heap.get? a = none) (hn : s'.heap.PlainList a us.toArray) (hr : RepL (nd σ P) s.heap ds us) :
    freshIn σ a ∧ Step noF σ (σ.set a (.mlist ds)) s s' ∧ StoreOk (σ.set a (.mlist ds)) P s'.heap := by
  have kh := keeps_heap k
  have nda : ¬ dom σ a := fun hd => by obtain ⟨o, ho⟩ := g.st.alive hd; rw [ha] at ho; cases ho
  have npa : ¬ P a := fun hp => by obtain ⟨o, ho⟩ := g.prot _ hp; rw [ha] at ho; cases ho
  have hf : freshIn σ a := ⟨by
    cases e : σ a with
    | none => rfl
    | some m => exact absurd (Or.inl (by rw [e]; exact Option.some_ne_none m)) nda, fun x C fs e => nda (.inr ⟨x, C, fs, e⟩)⟩
  have st : Stay (nd σ P) (nd (σ.set a (.mlist ds)) P) s.heap s'.heap := fun b o items n hN ho _ => ⟨kh b o ho, fun hd => (dom_set hd).elim hN.1 (fun e => by subst e; rw [ha] at ho; cases ho), hN.2⟩
  refine ⟨hf, ⟨(Step.of_keeps (F := noF) (σ := σ) k).same, fun b o e _ _ => kh b o e, fun b o e => ⟨o, kh b o e⟩, fun b hb => (dom_set hb).imp id (fun e : b = a => by rw [e]; exact ha)⟩, ⟨fun b mo e => ?_, fun x C dx fs e => ?_, fun b hb => ?_⟩⟩
  · unfold Store.set at e
    by_cases hb : b = a
    · rw [if_pos hb] at e
      cases e
      subst hb
      exact ⟨us.toArray, hn, by simpa using RepL.stay st _ _ hr⟩
    · rw [if_neg hb] at e
      exact (g.st.rep b mo e).stay st fun b' o _ ho => kh b' o ho
  · unfold Store.set at e ⊢
    by_cases hx : x = a
    · rw [if_pos hx] at e; cases e
    · rw [if_neg hx] at e
      obtain ⟨h1, h2⟩ := g.st.apart x C dx fs e
      refine ⟨?_, fun y C' fs' e' => ?_⟩
      · rw [if_neg (fun q : dx = a => hf.2 x C fs (q ▸ e))]; exact h1
      · by_cases hy : y = a
        · rw [if_pos hy] at e'; cases e'
        · rw [if_neg hy] at e'; exact h2 y C' fs' e'
  · rcases dom_set hb with h | h
    · exact g.st.free b h
    · subst h; exact npa

/-- a new list ends by mkS -/
theorem fin_list (g : Good c nm vs env ρ σ P s) {m : Bool} {ds : List D} {us : List Value} {s' : Shared} (hΦ : mkS m ds σ Φ) (hQ : ∀ v d σ' s', Φ d σ' → Step noF σ σ' s s' → StoreOk σ' P s'.heap → Rep (nd σ' P) s'.heap d v → Q v s')
    (k : Keeps s s') {a : Addr} (ha : s.heap.get? a = none) (hn : s'.heap.PlainList a us.toArray) (hr : RepL (nd σ P) s.heap ds us) : Q (.ref a) s' := by
  unfold mkS at hΦ
  cases m with
  | false =>
    simp only [Bool.false_eq_true, if_false] at hΦ
    obtain ⟨n, ho⟩ := hn
    exact fin_keeps g hQ hΦ k (newList_rep g (keeps_heap k) ha ⟨_, ho, rfl, rfl⟩ hr).2
  | true =>
    simp only [if_true] at hΦ
    obtain ⟨hf, st, ok⟩ := alloc_mut g k ha hn hr
    exact hQ _ (.obj a) _ s' (hΦ a hf) st ok (by simp [Rep])

/-- a new tuple -/
theorem fin_tuple (g : Good c nm vs env ρ σ P s) {ds : List D} {us : List Value} {s' : Shared} (hΦ : Φ (.tuple ds) σ) (hQ : ∀ v d σ' s', Φ d σ' → Step noF σ σ' s s' → StoreOk σ' P s'.heap → Rep (nd σ' P) s'.heap d v → Q v s')
    (k : Keeps s s') {a : Addr} (ha : s.heap.get? a = none) (hn : s'.heap.IsTuple a us.toArray) (hr : RepL (nd σ P) s.heap ds us) : Q (.ref a) s' := by
  refine fin_keeps g hQ hΦ k ?_
  simp only [Rep]
  exact ⟨a, us.toArray, rfl, g.nd_of_none ha, hn, by simpa using RepL.keeps hr (keeps_heap k)⟩

/-- what a sequence is in the heap -/
theorem asL_heap (ok : StoreOk σ P s.heap) {d : D} {v : Value} {xs : List D} (hr : Rep (nd σ P) s.heap d v) (e : asL σ d = some xs) :
    ∃ a us, v = .ref a ∧ (s.heap.IsList a us ∨ s.heap.IsTuple a us) ∧ RepL (nd σ P) s.heap xs us.toList := by
  cases d <;> simp only [asL] at e <;> try cases e
  · simp only [Rep] at hr
    obtain ⟨a, us, h1, _, h2, h3⟩ := hr
    exact ⟨a, us, h1, .inr h2, h3⟩
  · simp only [Rep] at hr
    obtain ⟨a, us, h1, _, h2, h3⟩ := hr
    exact ⟨a, us, h1, .inl h2, h3⟩
  · rename_i a
    simp only [Rep] at hr
    cases h : σ a with
    | none => rw [h] at e; cases e
    | some mo =>
      rw [h] at e
      cases mo with
      | mlist ds =>
        cases e
        obtain ⟨us, h1, h2⟩ := ok.rep a _ h
        exact ⟨a, us, hr, .inl h1.isList, h2⟩
      | inst C dx fs => cases e
      | mdict kvs => cases e

theorem asList_heap (ok : StoreOk σ P s.heap) {d : D} {v : Value} {xs : List D} (hr : Rep (nd σ P) s.heap d v) (e : asL σ d = some xs) (ht : isTuple d = false) :
    ∃ a us, v = .ref a ∧ s.heap.IsList a us ∧ RepL (nd σ P) s.heap xs us.toList := by
  cases d <;> simp only [asL] at e <;> try cases e
  · cases ht
  · simp only [Rep] at hr
    obtain ⟨a, us, h1, _, h2, h3⟩ := hr
    exact ⟨a, us, h1, h2, h3⟩
  · rename_i a
    simp only [Rep] at hr
    cases h : σ a with
    | none => rw [h] at e; cases e
    | some mo =>
      rw [h] at e
      cases mo with
      | mlist ds =>
        cases e
        obtain ⟨us, h1, h2⟩ := ok.rep a _ h
        exact ⟨a, us, hr, h1.isList, h2⟩
      | inst C dx fs => cases e
      | mdict kvs => cases e
theorem asTuple_heap {d : D} {v : Value} {xs : List D} (hr : Rep (nd σ P) s.heap d v) (e : asL σ d = some xs) (ht : isTuple d = true) :
    ∃ a us, v = .ref a ∧ nd σ P a ∧ s.heap.IsTuple a us ∧ RepL (nd σ P) s.heap xs us.toList ∧ d = .tuple xs := by
  cases d <;> simp only [isTuple] at ht <;> try cases ht
  simp only [asL] at e
  cases e
  simp only [Rep] at hr
  obtain ⟨a, us, h1, h0, h2, h3⟩ := hr
  exact ⟨a, us, h1, h0, h2, h3, rfl⟩

theorem binX_sound {op : Operator} {a b : D} {v u : Value} (g : Good c nm vs env ρ σ P s) (h : binX op a b σ Φ) (ha : Rep (nd σ P) s.heap a v) (hb : Rep (nd σ P) s.heap b u)
    (hQ : ∀ v d σ' s', Φ d σ' → Step noF σ σ' s s' → StoreOk σ' P s'.heap → Rep (nd σ' P) s'.heap d v → Q v s') : wpAny c.M A (binaryOp op v u) Q E s := by
  unfold binX at h
  split at h
  · obtain ⟨xs, ys, e1, e2, hn, ⟨t1, t2, h⟩ | ⟨t1, t2, h⟩⟩ := h
    · obtain ⟨l, us, rfl, hl, hr⟩ := asList_heap g.st ha e1 t1
      obtain ⟨l', us', rfl, hl', hr'⟩ := asList_heap g.st hb e2 t2
      have q1 := hr.length; have q2 := hr'.length
      simp only [Array.length_toList] at q1 q2
      refine add_list_any hl hl' ?_ (by have := sizeLine_small; omega)
      refine fin_keeps g hQ h (keeps_push' s _) (newList_rep g (keeps_heap (keeps_push' s _)) (get?_size_none _) (n := 0) ⟨_, Heap.get?_push_size _ rfl, rfl, ?_⟩ (us := us.toList ++ us'.toList) (hr.append hr')).2
      simp
    · obtain ⟨l, us, rfl, n1, hl, hr, rfl⟩ := asTuple_heap ha e1 t1
      obtain ⟨l', us', rfl, n2, hl', hr', rfl⟩ := asTuple_heap hb e2 t2
      have q1 := hr.length; have q2 := hr'.length
      simp only [Array.length_toList] at q1 q2
      obtain ⟨⟨cls, dd, data, sl⟩, ho, hc, n, hd⟩ := id hl
      obtain ⟨⟨cls2, dd2, data2, sl2⟩, ho2, hc2, m, hd2⟩ := id hl'
      simp only at hc hd hc2 hd2
      subst hc hd hc2 hd2
      by_cases z1 : us.isEmpty = true
      · refine concat_meets ⟨_, ho, rfl⟩ ⟨_, ho2, rfl⟩ noFill_tuple_add seq_tuple_add PySem.F.slot_tuple_add PySem.F.entry_tuple_add (PySem.F.args_tuple_add_2 _ _) (tuple_addW0 l l' us us' n m dd dd2 sl sl2 z1) ⟨ho, ho2, ?_⟩
        have : xs = [] := by
          have z : us.size = 0 := by simpa using z1
          exact List.eq_nil_of_length_eq_zero (by omega)
        subst this
        exact fin_keeps g hQ h (keeps_refl s) hb
      · by_cases z2 : us'.isEmpty = true
        · refine concat_meets ⟨_, ho, rfl⟩ ⟨_, ho2, rfl⟩ noFill_tuple_add seq_tuple_add PySem.F.slot_tuple_add PySem.F.entry_tuple_add (PySem.F.args_tuple_add_2 _ _) (tuple_addW1 l l' us us' n m dd dd2 sl sl2 z1 z2) ⟨ho, ho2, ?_⟩
          have : ys = [] := by
            have z : us'.size = 0 := by simpa using z2
            exact List.eq_nil_of_length_eq_zero (by omega)
          subst this
          rw [List.append_nil] at h
          exact fin_keeps g hQ h (keeps_refl s) ha
        · refine concat_meets ⟨_, ho, rfl⟩ ⟨_, ho2, rfl⟩ noFill_tuple_add seq_tuple_add PySem.F.slot_tuple_add PySem.F.entry_tuple_add (PySem.F.args_tuple_add_2 _ _) (tuple_addW2 l l' us us' n m dd dd2 sl sl2 z1 z2 (by have := sizeLine_small; omega)) ⟨ho, ho2, ?_⟩
          refine fin_tuple g h hQ (keeps_push' s _) (get?_size_none _) (us := us.toList ++ us'.toList) ⟨_, Heap.get?_push_size _ rfl, rfl, 0, ?_⟩ (hr.append hr')
          simp
  · exact h.elim

theorem intS_elim {a b : D} {v u : Value} {N : Addr → Prop} {h' : Heap} {K : Int → Int → Prop} (h : intS a b K) (ha : Rep N h' a v) (hb : Rep N h' b u) : ∃ x y t t', v = .int x t ∧ u = .int y t' ∧ K x y := by
  cases a with
  | int x =>
    cases b with
    | int y =>
      obtain ⟨t, rfl⟩ : ∃ t, v = .int x t := ha
      obtain ⟨t', rfl⟩ : ∃ t, u = .int y t := hb
      exact ⟨x, y, t, t', rfl, rfl, h⟩
    | _ => exact (show False from h).elim
  | _ => exact (show False from h).elim
theorem addS_sound {a b : D} {v u : Value} (g : Good c nm vs env ρ σ P s) (h : addS a b σ Φ) (ha : Rep (nd σ P) s.heap a v) (hb : Rep (nd σ P) s.heap b u)
    (hQ : ∀ v d σ' s', Φ d σ' → Step noF σ σ' s s' → StoreOk σ' P s'.heap → Rep (nd σ' P) s'.heap d v → Q v s') : wpAny c.M A (binaryOp .Add v u) Q E s := by
  cases a with
  | int x =>
    obtain ⟨x, y, t, t', rfl, rfl, h⟩ := intS_elim (a := .int x) (b := b) (K := fun x y => Φ (.int (x + y)) σ) h ha hb
    exact PyProof.Rows.add_int (fin_keeps g hQ h (keeps_toks s _) rep_int)
  | list xs =>
    cases b with
    | list ys =>
      have h : xs.length + ys.length ≤ small ∧ Φ (.list (xs ++ ys)) σ := h
      obtain ⟨l, us, rfl, _, hl, hr⟩ : ∃ a vs, v = .ref a ∧ nd σ P a ∧ s.heap.IsList a vs ∧ RepL (nd σ P) s.heap xs vs.toList := ha
      obtain ⟨l', us', rfl, _, hl', hr'⟩ : ∃ a vs, u = .ref a ∧ nd σ P a ∧ s.heap.IsList a vs ∧ RepL (nd σ P) s.heap ys vs.toList := hb
      have e1 := hr.length; have e2 := hr'.length
      simp only [Array.length_toList] at e1 e2
      refine add_list_any hl hl' ?_ (by have := h.1; have := sizeLine_small; omega)
      refine fin_keeps g hQ h.2 (keeps_push' s _) (newList_rep g (keeps_heap (keeps_push' s _)) (get?_size_none _) (n := 0) ⟨_, Heap.get?_push_size _ rfl, rfl, ?_⟩ (us := us.toList ++ us'.toList) (hr.append hr')).2
      simp
    | _ => exact binX_sound g h ha hb hQ
  | _ => exact binX_sound g h ha hb hQ
theorem binS_sound {op : Operator} {a b : D} {v u : Value} (g : Good c nm vs env ρ σ P s) (h : binS op a b σ Φ) (ha : Rep (nd σ P) s.heap a v) (hb : Rep (nd σ P) s.heap b u)
    (hQ : ∀ v d σ' s', Φ d σ' → Step noF σ σ' s s' → StoreOk σ' P s'.heap → Rep (nd σ' P) s'.heap d v → Q v s') : wpAny c.M A (binaryOp op v u) Q E s := by
  cases op with
  | Add => exact addS_sound g h ha hb hQ
  | Sub =>
    obtain ⟨x, y, t, t', rfl, rfl, h⟩ := intS_elim h ha hb
    exact PyProof.Rows.sub_int (fin_keeps g hQ h (keeps_toks s _) rep_int)
  | Mult =>
    obtain ⟨x, y, t, t', rfl, rfl, h⟩ := intS_elim h ha hb
    exact PyProof.Rows.mul_int (fin_keeps g hQ h.2 (keeps_toks s _) rep_int) (by
      have h1 := h.1
      unfold IntMulOk
      intro hx
      simp only [Bool.and_eq_true, decide_eq_true_eq] at hx
      rcases h1 with h1 | h1
      · exact absurd hx.1.1 (Nat.not_lt.mpr (Nat.le_trans (PyProof.Rows.intBits_le h1) (by decide)))
      · exact absurd hx.1.2 (Nat.not_lt.mpr (Nat.le_trans (PyProof.Rows.intBits_le h1) (by decide))))
  | Mod =>
    obtain ⟨x, y, t, t', rfl, rfl, h⟩ := intS_elim h ha hb
    refine PyProof.Rows.mod_int (Int.ne_of_gt h.1) ?_
    rw [Int.fmod_eq_emod_of_nonneg x (Int.le_of_lt h.1)]
    exact fin_keeps g hQ h.2 (keeps_toks s _) rep_int
  | FloorDiv =>
    obtain ⟨x, y, t, t', rfl, rfl, h⟩ := intS_elim h ha hb
    have h1 := h.1
    refine PyProof.Rows.floordiv_int (Int.ne_of_gt h1.1) ?_ (Or.inl (PyProof.noPylong_of_log2 ?_))
    · rw [Int.fdiv_eq_ediv_of_nonneg x (Int.le_of_lt h1.1)]
      exact fin_keeps g hQ h.2 (keeps_toks s _) rep_int
    · have h3 : y.natAbs ≠ 0 := by omega
      refine (Nat.log2_lt h3).mpr ?_
      have h4 := h1.2
      refine Nat.lt_of_lt_of_le (m := 10 ^ 50) ?_ big_9000
      omega
  | Pow =>
    obtain ⟨x, y, t, t', rfl, rfl, h⟩ := intS_elim h ha hb
    exact PyProof.Rows.pow_int h.1.1 h.1.2 (fin_keeps g hQ h.2 (keeps_toks s _) rep_int)
  | _ => exact (show False from h).elim
end
end Mine

open PySem PyProof.Rows
set_option Elab.async false
namespace Mine

theorem beq_dec (x y : Int) : (x == y) = decide (x = y) := by by_cases h : x = y <;> simp [h]
theorem isTup_of {h : Heap} {a : Addr} {us : Array Value} (x : h.IsTuple a us) : IsTup h a us.toList.toArray := by rw [Array.toArray_toList]; exact x

mutual
theorem reads_of {N : Addr → Prop} {h : Heap} : ∀ (d : D) (v : Value) (x : PyData), Rep N h d v → D.py d = some x → ∃ as, Reads h v x as
  | .none, v, x, r, e => by simp only [Rep] at r; simp only [D.py] at e; cases e; subst r; exact ⟨_, .none⟩
  | .bool b, v, x, r, e => by simp only [Rep] at r; simp only [D.py] at e; cases e; subst r; exact ⟨_, .bool b⟩
  | .int i, v, x, r, e => by simp only [Rep] at r; simp only [D.py] at e; cases e; obtain ⟨t, rfl⟩ := r; exact ⟨_, .int i t⟩
  | .str i, v, x, r, e => by simp only [Rep] at r; simp only [D.py] at e; cases e; obtain ⟨t, rfl⟩ := r; exact ⟨_, .str i t⟩
  | .obj a, v, x, r, e => by simp only [D.py] at e; cases e
  | .tuple ds, v, x, r, e => by
    simp only [Rep] at r
    simp only [D.py, Option.map_eq_some_iff] at e
    obtain ⟨xs, e1, rfl⟩ := e
    obtain ⟨a, us, rfl, _, ⟨o, ho, hc, n, hd⟩, hl⟩ := r
    obtain ⟨as, ra⟩ := readsL_of ds us.toList xs hl e1
    exact ⟨_, .tuple ho hc hd ra⟩
  | .list ds, v, x, r, e => by
    simp only [Rep] at r
    simp only [D.py, Option.map_eq_some_iff] at e
    obtain ⟨xs, e1, rfl⟩ := e
    obtain ⟨a, us, rfl, _, ⟨o, ho, hc, n, hd⟩, hl⟩ := r
    obtain ⟨as, ra⟩ := readsL_of ds us.toList xs hl e1
    exact ⟨_, .list ho hc hd ra⟩
theorem readsL_of {N : Addr → Prop} {h : Heap} : ∀ (ds : List D) (vs : List Value) (xs : List PyData), RepL N h ds vs → D.pys ds = some xs → ∃ as, ReadsAll h vs xs as
  | [], vs, xs, r, e => by simp only [RepL] at r; simp only [D.pys] at e; cases e; subst r; exact ⟨_, .nil⟩
  | d :: ds, vs, xs, r, e => by
    simp only [RepL] at r
    obtain ⟨v, u, rfl, h1, h2⟩ := r
    simp only [D.pys, Option.bind_eq_some_iff, Option.map_eq_some_iff] at e
    obtain ⟨y, e1, ys, e2, rfl⟩ := e
    obtain ⟨as, ra⟩ := reads_of d v y h1 e1
    obtain ⟨bs, rb⟩ := readsL_of ds u ys h2 e2
    exact ⟨_, .cons ra rb⟩
end

section
variable {c : Cx} {A : Around} {nm : Nat → Str} {vs : List Nat} {env : Env} {ρ : PEnv} {σ : Store} {P : Addr → Prop} {s : Shared} {Q : Value → Shared → Prop} {E : Value → Shared → Prop} {Φ : D → Store → Prop}

theorem eqP_reads (ok : StoreOk σ P s.heap) {d : D} {v : Value} {x : PyData} (hr : Rep (nd σ P) s.heap d v) (e : eqP σ d = some x) : ∃ as, Reads s.heap v x as := by
  cases d with
  | obj a =>
    simp only [eqP] at e
    simp only [Rep] at hr
    subst hr
    cases h : σ a with
    | none => rw [h] at e; cases e
    | some mo =>
      rw [h] at e
      cases mo with
      | mlist ds =>
        simp only [Option.map_eq_some_iff] at e
        obtain ⟨xs, e1, rfl⟩ := e
        obtain ⟨us, ⟨n, ho⟩, hl⟩ := ok.rep a _ h
        obtain ⟨as, ra⟩ := readsL_of ds us.toList xs hl e1
        exact ⟨_, .list ho rfl rfl ra⟩
      | inst C dx fs => cases e
      | mdict kvs => cases e
  | _ => exact reads_of _ v x hr (by simpa only [eqP] using e)

theorem isNone_val {d : D} {v : Value} {t : Bool} (hr : Rep (nd σ P) s.heap d v) (e : isNone d = some t) : (v == Value.none) = t := by
  cases d <;> simp only [isNone] at e <;> cases e <;> simp only [Rep] at hr
  · subst hr; rfl
  · subst hr; rfl
  · obtain ⟨t, rfl⟩ := hr; rfl
  · obtain ⟨t, rfl⟩ := hr; rfl
  · obtain ⟨a, us, rfl, _⟩ := hr; rfl
  · obtain ⟨a, us, rfl, _⟩ := hr; rfl
  · subst hr; rfl

theorem ints_of_repL {N : Addr → Prop} {h : Heap} : ∀ {ns : List Int} {us : List Value}, RepL N h (ns.map D.int) us → IntsAre us ns
  | [], us, x => by simp only [List.map_nil, RepL] at x; subst x; exact .nil
  | n :: r, us, x => by
    simp only [List.map_cons, RepL, Rep] at x
    obtain ⟨v, q, rfl, ⟨t, rfl⟩, hq⟩ := x
    exact .cons n t (ints_of_repL hq)
noncomputable def eqI (k : Int) (v : Value) : Bool := match v with
  | .int i _ => i == k
  | _ => false
theorem any_eqI {k : Int} : ∀ {us : List Value} {ns : List Int}, IntsAre us ns → us.any (eqI k) = ns.contains k
  | _, _, .nil => rfl
  | _, _, .cons n t r => by
    rw [List.any_cons, List.contains_cons, any_eqI r]
    congr 1
    show (n == k) = (k == n)
    by_cases h : n = k
    · subst h; rfl
    · rw [beq_eq_false_iff_ne.mpr h, beq_eq_false_iff_ne.mpr (Ne.symm h)]
theorem ints_all : ∀ {us : List Value} {ns : List Int}, IntsAre us ns → ∀ v ∈ us, ∃ n t, v = .int n t := fun h v hv => IntsAre.all h v hv

theorem eqI_at {us : List Value} {ns : List Int} (k : Int) (t : Tok) (hI : IntsAre us ns) : ∀ y ∈ us, SeqAt.EqAt A.in1 s y (.int k t) (eqI k y) := fun y hy => by
  obtain ⟨n, t', rfl⟩ := ints_all hI y hy
  intro prog w E Q hq
  exact wpAny_eqBool_int hq
/-- membership, asked in either way -/
theorem inS_sound {a b : D} {v u : Value} {K : Bool → Prop} (g : Good c nm vs env ρ σ P s) (h : inS a b σ K) (ha : Rep (nd σ P) s.heap a v) (hb : Rep (nd σ P) s.heap b u) (neg : Bool)
    (hQ : ∀ t tk, K t → Q (.bool (if neg then !t else t)) { s with toks := tk }) : wpAny c.M A (compareOp (if neg then .NotIn else .In) v u) Q E s := by
  cases a with
  | int k =>
    obtain ⟨t, rfl⟩ : ∃ t, v = .int k t := ha
    rcases h with ⟨ns, e, h⟩ | h
    · obtain ⟨l, us, rfl, hl, hr⟩ := asL_heap g.st hb e
      have hI := ints_of_repL hr
      have ea : us.any (eqI k) = ns.contains k := by rw [← Array.any_toList]; exact any_eqI hI
      have hall := fun y hy => eqI_at (A := A) (s := s) k t hI y (Array.mem_toList_iff.mpr hy)
      have fin := hQ _ s.toks h
      rw [← ea] at fin
      cases neg with
      | false => exact hl.elim (fun hl => SeqAt.in_listAt (eqI k) hl hall fin) fun hl => SeqAt.in_tupleAt (eqI k) hl hall fin
      | true => exact hl.elim (fun hl => SeqAt.notIn_listAt (eqI k) hl hall fin) fun hl => SeqAt.notIn_tupleAt (eqI k) hl hall fin
    · exact h.elim
  | _ => exact (show False from h).elim
/-- equality, asked in either way -/
theorem eqG_sound {a b : D} {v u : Value} {K : Bool → Prop} (hA : A.units + 64 < cLine) (g : Good c nm vs env ρ σ P s) (h : eqG a b σ K) (ha : Rep (nd σ P) s.heap a v) (hb : Rep (nd σ P) s.heap b u) (neg : Bool)
    (hQ : ∀ t, K t → Q (.bool (if neg then !t else t)) s) : wpAny c.M A (compareOp (if neg then .NotEq else .Eq) v u) Q E s := by
  obtain ⟨x, y, e1, e2, s1, s2, h⟩ := h
  obtain ⟨as, ra⟩ := eqP_reads g.st ha e1
  obtain ⟨bs, rb⟩ := eqP_reads g.st hb e2
  cases neg with
  | false => exact eq_dataH ra rb s1 s2 hA (hQ _ h)
  | true => exact ne_dataH ra rb s1 s2 hA (hQ _ h)
theorem eqS_sound {a b : D} {v u : Value} {K : Bool → Prop} (hA : A.units + 64 < cLine) (g : Good c nm vs env ρ σ P s) (h : eqS' a b σ K) (ha : Rep (nd σ P) s.heap a v) (hb : Rep (nd σ P) s.heap b u) (neg : Bool)
    (hQ : ∀ t, K t → Q (.bool (if neg then !t else t)) s) : wpAny c.M A (compareOp (if neg then .NotEq else .Eq) v u) Q E s := by
  cases a with
  | int x =>
    cases b with
    | int y =>
      obtain ⟨t, rfl⟩ : ∃ t, v = .int x t := ha
      obtain ⟨t', rfl⟩ : ∃ t, u = .int y t := hb
      have fin := hQ _ h
      rw [← beq_dec] at fin
      cases neg with
      | false => exact PyProof.Rows.eq_int fin
      | true => exact PyProof.Rows.ne_int fin
    | _ => exact eqG_sound hA g h ha hb neg hQ
  | bool x =>
    cases b with
    | bool y =>
      obtain rfl : v = .bool x := ha
      obtain rfl : u = .bool y := hb
      have fin := hQ _ h
      cases neg with
      | false => exact PyProof.Rows.eq_bool fin
      | true => exact PyProof.Rows.ne_bool fin
    | _ => exact eqG_sound hA g h ha hb neg hQ
  | _ => exact eqG_sound hA g h ha hb neg hQ
theorem isS_sound {a b : D} {v u : Value} {K : Bool → Prop} (h : isS a b K) (ha : Rep (nd σ P) s.heap a v) (hb : Rep (nd σ P) s.heap b u) : ∃ t, u = .none ∧ (v == Value.none) = t ∧ K t := by
  cases b with
  | none =>
    obtain ⟨t, e, h⟩ : ∃ t, isNone a = some t ∧ K t := h
    exact ⟨t, hb, isNone_val ha e, h⟩
  | _ => exact (show False from h).elim

theorem cmpS_sound {op : CmpOp} {a b : D} {v u : Value} (hA : A.units + 64 < cLine) (g : Good c nm vs env ρ σ P s) (h : cmpS op a b σ Φ) (ha : Rep (nd σ P) s.heap a v) (hb : Rep (nd σ P) s.heap b u)
    (hQ : ∀ v d σ' s', Φ d σ' → Step noF σ σ' s s' → StoreOk σ' P s'.heap → Rep (nd σ' P) s'.heap d v → Q v s') : wpAny c.M A (compareOp op v u) Q E s := by
  have fin : ∀ t, Φ (.bool t) σ → Q (.bool t) s := fun t ht => fin_keeps g hQ ht (keeps_refl s) rep_bool
  have fin1 : ∀ t tk, Φ (.bool t) σ → Q (.bool t) { s with toks := tk } := fun t tk ht => fin_keeps g hQ ht (keeps_toks s _) rep_bool
  cases op with
  | Lt =>
    obtain ⟨x, y, t, t', rfl, rfl, h⟩ := intS_elim h ha hb
    exact PyProof.Rows.lt_int (fin _ h)
  | LtE =>
    obtain ⟨x, y, t, t', rfl, rfl, h⟩ := intS_elim h ha hb
    exact PyProof.Rows.le_int (fin _ h)
  | Gt =>
    obtain ⟨x, y, t, t', rfl, rfl, h⟩ := intS_elim h ha hb
    exact PyProof.Rows.gt_int (fin _ h)
  | GtE =>
    obtain ⟨x, y, t, t', rfl, rfl, h⟩ := intS_elim h ha hb
    exact PyProof.Rows.ge_int (fin _ h)
  | Eq => exact eqS_sound (a := a) (b := b) (K := fun t => Φ (.bool t) σ) hA g h ha hb false fun t ht => fin _ ht
  | NotEq => exact eqS_sound (a := a) (b := b) (K := fun t => Φ (.bool (!t)) σ) hA g h ha hb true fun t ht => fin _ ht
  | Is =>
    obtain ⟨t, rfl, e, h⟩ := isS_sound h ha hb
    exact is_none_gen (by rw [e]; exact fin _ h)
  | IsNot =>
    obtain ⟨t, rfl, e, h⟩ := isS_sound h ha hb
    exact isnot_none_gen (by rw [e]; exact fin _ h)
  | In => exact inS_sound (a := a) (b := b) (K := fun t => Φ (.bool t) σ) g h ha hb false fun t tk ht => fin1 _ tk ht
  | NotIn => exact inS_sound (a := a) (b := b) (K := fun t => Φ (.bool (!t)) σ) g h ha hb true fun t tk ht => fin1 _ tk ht

theorem subS_sound {o i : D} {v u : Value} {value slice : Expr} (hs : ∀ x y, subscripted slice false x y = operate [x, y] (getItem x y)) (g : Good c nm vs env ρ σ P s) (h : subS o i σ Φ) (ha : Rep (nd σ P) s.heap o v) (hb : Rep (nd σ P) s.heap i u)
    (hQ : ∀ v d σ' s', Φ d σ' → Step noF σ σ' s s' → StoreOk σ' P s'.heap → Rep (nd σ' P) s'.heap d v → Q v s') : wpAny c.M A (subscriptTail value slice v u) Q E s := by
  unfold subS at h
  split at h
  · rename_i k
    obtain ⟨xs, e, hn, h⟩ := h
    simp only [Rep] at hb; obtain ⟨t, rfl⟩ := hb
    obtain ⟨a, us, rfl, hl, hr⟩ := asL_heap g.st ha e
    have el := hr.length
    simp only [Array.length_toList] at el
    have hsz : us.size ≤ small := by omega
    unfold small at hsz
    rcases h with ⟨h0, d, hd, h⟩ | ⟨rfl, d, hd, h⟩
    · obtain ⟨x, hx, hrx⟩ := hr.get hd
      have hlt : k.toNat < us.size := by
        obtain ⟨hlt, _⟩ := List.getElem?_eq_some_iff.mp hx
        simpa using hlt
      have hx' : us[k.toNat]? = some x := by simpa using hx
      have fin : Q x s := fin_keeps g hQ h (keeps_refl s) hrx
      rcases hl with hl | hl
      · exact tail_any hl.typeIs slot_list_getitem.lookup (wpAny_getItem_list hl h0 (by omega) hx' fin) (hs _ _)
      · refine item_tupleT (l := us.toList) (j := k.toNat) (isTup_of hl) (by omega) (by omega) ?_ (by simpa using hx) fin (hs _ _)
        unfold seqIndex?
        simp only [Array.length_toList]
        rw [if_neg (by omega : ¬ k < 0), if_pos (by simp; omega)]
    · have hne : xs ≠ [] := by intro q; subst q; simp at hd
      have hpos : 0 < xs.length := List.length_pos_iff.mpr hne
      rw [List.getLast?_eq_getElem?] at hd
      obtain ⟨x, hx, hrx⟩ := hr.get hd
      have hx' : us[us.size - 1]? = some x := by rw [← el] at hx; simpa using hx
      have fin : Q x s := fin_keeps g hQ h (keeps_refl s) hrx
      rcases hl with hl | hl
      · refine tail_any hl.typeIs slot_list_getitem.lookup (wpAny_getItem_list_neg hl (by omega) (by omega) (by omega) ?_ fin) (hs _ _)
        rw [show (-1 + (us.size : Int)).toNat = us.size - 1 by omega]; exact hx'
      · refine item_tupleT (l := us.toList) (j := us.size - 1) (isTup_of hl) (by omega) (by omega) ?_ (by simpa using hx') fin (hs _ _)
        unfold seqIndex?
        simp only [Array.length_toList]
        rw [if_pos (by omega : (-1 : Int) < 0), if_pos (by simp; omega)]
        congr 1; omega
  · exact h.elim
end
end Mine

open PySem PySem.W PyProof.Rows
set_option Elab.async false
set_option maxRecDepth 100000
namespace Mine

section
variable {prog : Program} {w : World} {A : Around} {E : Value → Shared → Prop} {s : Shared}

theorem sorted_any {l : Addr} {vs : List Value} {ns : List Int} {Q : Value → Shared → Prop} (hl : s.heap.IsList l vs.toArray) (hI : IntsAre vs ns) (hz : vs.length ≤ sizeLine)
    (hQ : ∀ D h' out ns', h'.PlainList D out → s.heap.get? D = none → IntsAre out.toList ns' → ns'.Perm ns → ns'.Pairwise (· ≤ ·) → (∀ b o, s.heap.get? b = some o → h'.get? b = some o) → Q (.ref D) { s with heap := h' }) :
    wpAny (model prog w) A (call (.builtin "sorted") [.ref l]) Q E s := by
  refine Calls.call_function_entry kind_sorted plain_sorted entry_sorted (args_sorted1 _) ?_
  unfold Builtin.«sorted»
  refine wpAny_bind (m := checkCount "sorted" 1 1 _) (wpAny_pure ?_)
  refine wpAny_bind (collect_list hl ?_ hz)
  refine wpAny_bind (wpAny_newList ?_ hz)
  have hsz : ((s.heap.push (seqObj "list" #[] 0)).update s.heap.objs.size (Obj.mapSeq (· ++ vs.toArray))).objs.size = s.heap.objs.size + 1 := by
    rw [Heap.size_update, size_push']
  have hoL : (((s.heap.push (seqObj "list" #[] 0)).update s.heap.objs.size (Obj.mapSeq (· ++ vs.toArray))).push (seqObj "list" vs.toArray 0)).get? (s.heap.objs.size + 1) = some (seqObj "list" vs.toArray 0) := by
    rw [← hsz]; exact Heap.get?_push_size _ rfl
  show wpAny _ _ _ _ _ { s with heap := ((s.heap.push (seqObj "list" #[] 0)).update s.heap.objs.size (Obj.mapSeq (· ++ vs.toArray))).push (seqObj "list" vs.toArray 0) }
  rw [hsz]
  refine wpAny_bind (wpAny_holding (wpAny_call_entry slot_list_sort ⟨_, hoL, rfl⟩ entry_list_sort (sort_any hoL hI hz fun out ns' a1 a2 a3 => ⟨_, rfl, ?_⟩) (args_list_sort _)))
  obtain ⟨e, he⟩ := sortedAll_at s.heap vs out
  refine wpAny_pure ⟨_, rfl, hQ _ (sortedAll s.heap vs out) out ns' ⟨e, he⟩ ?_ a1 a2 a3 fun b o => sortedAll_old⟩
  cases e' : s.heap.get? (s.heap.objs.size + 1) with
  | none => rfl
  | some o => exact absurd (Heap.lt_size e') (Nat.not_lt.mpr (Nat.le_succ _))

end

theorem repL_of_ints {N : Addr → Prop} {h : Heap} : ∀ {vs : List Value} {ns : List Int}, IntsAre vs ns → RepL N h (ns.map D.int) vs
  | _, _, .nil => .nil
  | _, _, .cons n t r => .cons (by simp only [Rep]; exact ⟨t, rfl⟩) (repL_of_ints r)

section
variable {c : Cx} {A : Around} {nm : Nat → Str} {vs : List Nat} {env : Env} {ρ : PEnv} {σ : Store} {P : Addr → Prop} {s : Shared} {Q : Value → Shared → Prop} {E : Value → Shared → Prop} {Φ : D → Store → Prop}

theorem one_elim {N : Addr → Prop} {h' : Heap} {ds : List D} {us : List Value} {K : D → Prop} (h : oneS ds K) (hr : RepL N h' ds us) : ∃ d v, us = [v] ∧ Rep N h' d v ∧ K d :=
  match ds, h, hr with
  | [d], h, ⟨v, _, e, hv, e'⟩ => ⟨d, v, by rw [e, e'], hv, h⟩
theorem two_elim {N : Addr → Prop} {h' : Heap} {ds : List D} {us : List Value} {K : D → D → Prop} (h : twoS ds K) (hr : RepL N h' ds us) : ∃ d e v u, us = [v, u] ∧ Rep N h' d v ∧ Rep N h' e u ∧ K d e :=
  match ds, h, hr with
  | [d, e], h, ⟨v, _, e1, hv, u, _, e2, hu, e3⟩ => ⟨d, e, v, u, by rw [e1, e2, e3], hv, hu, h⟩
theorem intK_elim {N : Addr → Prop} {h' : Heap} {d : D} {v : Value} {K : Int → Prop} (h : intK d K) (hr : Rep N h' d v) : ∃ i t, v = .int i t ∧ K i := by
  cases d with
  | int i => obtain ⟨t, e⟩ : ∃ t, v = .int i t := hr; exact ⟨i, t, e, h⟩
  | _ => exact (show False from h).elim
theorem fresh_keep {s : Shared} {h' : Heap} (hk : ∀ b o, s.heap.get? b = some o → h'.get? b = some o) : s.heap.get? h'.objs.size = none := by
  cases e : s.heap.get? h'.objs.size with
  | none => rfl
  | some o => have := hk _ _ e; rw [get?_size_none] at this; cases this

theorem bi_sorted {m : Bool} {d : D} {v : Value} (g : Good c nm vs env ρ σ P s) (h : ∃ ns ms : List Int, asL σ d = some (ns.map D.int) ∧ isTuple d = false ∧ ns.length ≤ small ∧ ms.Perm ns ∧ ms.Pairwise (· ≤ ·) ∧ mkS m (ms.map D.int) σ Φ) (hv : Rep (nd σ P) s.heap d v)
    (hQ : ∀ v d σ' s', Φ d σ' → Step noF σ σ' s s' → StoreOk σ' P s'.heap → Rep (nd σ' P) s'.heap d v → Q v s') : wpAny c.M A (call (.builtin "sorted") [v]) Q E s := by
  obtain ⟨ns, ms, e, ht, hn, hp, hs, h⟩ := h
  obtain ⟨a, ws, rfl, hl, hw⟩ := asList_heap g.st hv e ht
  have el := hw.length
  simp only [Array.length_toList, List.length_map] at el
  have hl' : s.heap.IsList a ws.toList.toArray := by rw [Array.toArray_toList]; exact hl
  refine sorted_any hl' (ints_of_repL hw) (by rw [Array.length_toList]; have := sizeLine_small; omega) fun D h' out ns' hD hn' hI hp' hs' hk => ?_
  have : ns' = ms := asc_unique (hp'.trans hp.symm) hs' hs
  subst this
  exact fin_list g h hQ ⟨h', s.toks, rfl, hk⟩ hn' (us := out.toList) (by rw [Array.toArray_toList]; exact hD) (repL_of_ints hI)
theorem bi_tuple {d : D} {v : Value} (g : Good c nm vs env ρ σ P s) (h : ∃ xs, asL σ d = some xs ∧ isTuple d = false ∧ xs.length ≤ small ∧ Φ (.tuple xs) σ) (hv : Rep (nd σ P) s.heap d v)
    (hQ : ∀ v d σ' s', Φ d σ' → Step noF σ σ' s s' → StoreOk σ' P s'.heap → Rep (nd σ' P) s'.heap d v → Q v s') : wpAny c.M A (call (.type "tuple") [v]) Q E s := by
  obtain ⟨xs, e, ht, hn, h⟩ := h
  obtain ⟨a, ws, rfl, hl, hw⟩ := asList_heap g.st hv e ht
  have el := hw.length
  simp only [Array.length_toList] at el
  refine call_tuple_list hl (fun h' hk => ?_) (by have := sizeLine_small; omega)
  exact fin_tuple g h hQ ⟨_, s.toks, rfl, fun b o e => Heap.get?_push_of_some _ (hk b o e)⟩ (fresh_keep hk) (us := ws.toList) ⟨_, Heap.get?_push_size _ rfl, rfl, 0, by simp⟩ hw
end
end Mine

open PySem PyProof.Rows
set_option Elab.async false
namespace Mine
section
variable {c : Cx} {A : Around} {nm : Nat → Str} {vs : List Nat} {env : Env} {ρ : PEnv} {σ : Store} {P : Addr → Prop} {s : Shared} {Q : Value → Shared → Prop} {E : Value → Shared → Prop} {Φ : D → Store → Prop}

theorem tyS_sound {ty : TY} {d : D} {v : Value} {t : Bool} (g : Good c nm vs env ρ σ P s) (e : tyS ty d σ = some t) (h : Φ (.bool t) σ) (hr : Rep (nd σ P) s.heap d v)
    (hQ : ∀ v d σ' s', Φ d σ' → Step noF σ σ' s s' → StoreOk σ' P s'.heap → Rep (nd σ' P) s'.heap d v → Q v s') : wpAny c.M A (call (.builtin "isinstance") [v, .type ty.name]) Q E s := by
  have f1 : Q (.bool t) s := fin_keeps g hQ h (keeps_refl s) rep_bool
  have f2 : Q (.bool t) { s with toks := s.toks + 1 } := fin_keeps g hQ h (keeps_toks s _) rep_bool
  cases d with
  | int i =>
    obtain ⟨u, rfl⟩ : ∃ t, v = .int i t := hr
    cases ty with
    | int => cases e; exact IsiPair.int_int f1
    | bool => cases e; exact IsiPair.int_bool f2
    | _ => cases e
  | bool b =>
    obtain rfl : v = .bool b := hr
    cases ty with
    | int => cases e; exact IsiPair.bool_int f1
    | bool => cases e; exact IsiPair.bool_bool f1
    | _ => cases e
  | list xs =>
    obtain ⟨a, us, rfl, _, hl, _⟩ := hr
    cases ty with
    | list => cases e; exact IsiPair.isList_list hl (fun _ _ x => x) f1
    | tuple => cases e; exact IsiPair.isList_tuple hl (fun _ _ x => x) f2
    | _ => cases e
  | tuple xs =>
    obtain ⟨a, us, rfl, _, hl, _⟩ := hr
    cases ty with
    | list => cases e; exact IsiPair.isTuple_list hl (fun _ _ x => x) f2
    | tuple => cases e; exact IsiPair.isTuple_tuple hl (fun _ _ x => x) f1
    | _ => cases e
  | obj a =>
    obtain rfl : v = .ref a := hr
    cases ty with
    | list =>
      cases hm : σ a with
      | none => simp only [tyS, hm] at e; cases e
      | some mo =>
        cases mo with
        | mlist xs =>
          simp only [tyS, hm] at e; cases e
          obtain ⟨us, hl, _⟩ := g.st.rep a _ hm
          exact IsiPair.isList_list hl.isList (fun _ _ x => x) f1
        | _ => simp only [tyS, hm] at e; cases e
    | _ => cases e
  | _ => cases e

theorem mm_sound {mx : Bool} {d : D} {v : Value} (hh : A.handled = none) (g : Good c nm vs env ρ σ P s) (h : mmS mx d σ Φ) (hr : Rep (nd σ P) s.heap d v)
    (hQ : ∀ v d σ' s', Φ d σ' → Step noF σ σ' s s' → StoreOk σ' P s'.heap → Rep (nd σ' P) s'.heap d v → Q v s') : wpAny c.M A (call (.builtin (if mx then "max" else "min")) [v] [(Str.ofString "default", .none)]) Q E s := by
  obtain ⟨ns, e, ht, h⟩ := h
  obtain ⟨a, us, rfl, hl, hw⟩ := asList_heap g.st hr e ht
  have hI := ints_of_repL hw
  have hl' : s.heap.IsList a us.toList.toArray := by rw [Array.toArray_toList]; exact hl
  cases mx with
  | true =>
    refine call_max_d hh hl' hI fun v h' tk hv hk => ?_
    simp only [if_true] at h
    refine fin_keeps g hQ h ⟨h', tk, rfl, hk⟩ ?_
    cases e : maxOf ns with
    | none => rw [e] at hv; subst hv; exact rep_none
    | some m => rw [e] at hv; obtain ⟨t, rfl⟩ := hv; exact rep_int
  | false =>
    refine call_min_d hh hl' hI fun v h' tk hv hk => ?_
    simp only [Bool.false_eq_true, if_false] at h
    refine fin_keeps g hQ h ⟨h', tk, rfl, hk⟩ ?_
    cases e : minOf ns with
    | none => rw [e] at hv; subst hv; exact rep_none
    | some m => rw [e] at hv; obtain ⟨t, rfl⟩ := hv; exact rep_int

theorem sset_sound {d : D} {v : Value} (hh : A.handled = none) (g : Good c nm vs env ρ σ P s) (h : ssetS d σ Φ) (hr : Rep (nd σ P) s.heap d v)
    (hQ : ∀ v d σ' s', Φ d σ' → Step noF σ σ' s s' → StoreOk σ' P s'.heap → Rep (nd σ' P) s'.heap d v → Q v s') : wpAny c.M A (call (.type "set") [v]) (fun u s' => wpAny c.M A (call (.builtin "sorted") [u]) Q E s') E s := by
  obtain ⟨ns, e, ht, h6, h⟩ := h
  obtain ⟨a, us, rfl, hl, hw⟩ := asList_heap g.st hr e ht
  have e1 : (ns.map fun (k : Nat) => D.int k) = (ns.map Int.ofNat).map D.int := by rw [List.map_map]; rfl
  rw [e1] at hw
  refine call_set hh hl (ints_of_repL hw) h6 fun h' tk hS hk => ?_
  have kh : ∀ b o, s.heap.get? b = some o → h'.get? b = some o := fun b o e => hk b o (Heap.lt_size e) e
  refine sorted_set (bits_lt h6) hS hh fun Da h'' tk' out hl' hD hI hk' => ?_
  have kk : Keeps s { s with heap := h'', toks := tk' } := ⟨h'', tk', rfl, fun b o e => hk' b o (kh b o e)⟩
  have hsD : s.heap.get? Da = none := by
    cases e : s.heap.get? Da with
    | none => rfl
    | some o => have := kh Da o e; rw [hD] at this; cases this
  refine fin_keeps g hQ h kk ?_
  have e2 : ((keysOf (bitsOf ns)).map fun (k : Nat) => D.int k) = ((keysOf (bitsOf ns)).map Int.ofNat).map D.int := by rw [List.map_map]; rfl
  rw [e2]
  simp only [Rep]
  exact ⟨Da, out, rfl, g.nd_of_none hsD, hl', repL_of_ints hI⟩

theorem dom_set_same {a x : Addr} {xs ys : List D} (h : σ a = some (.mlist xs)) : dom (σ.set a (.mlist ys)) x ↔ dom σ x := by
  constructor
  · intro hd
    rcases dom_set hd with q | rfl
    · exact q
    · exact .inl (by rw [h]; exact Option.some_ne_none _)
  · rintro (q | ⟨y, C, fs, q⟩)
    · left
      unfold Store.set
      by_cases e : x = a
      · rw [if_pos e]; exact Option.some_ne_none _
      · rw [if_neg e]; exact q
    · right
      refine ⟨y, C, fs, ?_⟩
      unfold Store.set
      by_cases e : y = a
      · subst e; rw [h] at q; cases q
      · rw [if_neg e]; exact q

/-- a list of the store changes in place -/
theorem upd_mut (g : Good c nm vs env ρ σ P s) {a : Addr} {xs ys : List D} (hm : σ a = some (.mlist xs)) {h' : Heap} {tk : Nat} (hs : Heap.SameBut a s.heap h') {us : Array Value} (hn : h'.PlainList a us) (hr : RepL (nd σ P) s.heap ys us.toList) :
    Step noF σ (σ.set a (.mlist ys)) s { s with heap := h', toks := tk } ∧ StoreOk (σ.set a (.mlist ys)) P h' := by
  have hda : dom σ a := .inl (by rw [hm]; exact Option.some_ne_none _)
  have keep : ∀ b o, b ≠ a → s.heap.get? b = some o → h'.get? b = some o := fun b o hb e => hs.extBut b o hb e
  have st : Stay (nd σ P) (nd (σ.set a (.mlist ys)) P) s.heap h' := fun b o items n hN ho _ => ⟨keep b o (fun q => hN.1 (q ▸ hda)) ho, fun hd => hN.1 ((dom_set_same hm).mp hd), hN.2⟩
  refine ⟨⟨⟨h', tk, rfl⟩, fun b o e hd _ => keep b o (fun q => hd (q ▸ hda)) e, fun b o e => ?_, fun b hb => .inl ((dom_set_same hm).mp hb)⟩, ⟨fun b mo e => ?_, fun x C dx fs e => ?_, fun b hb => g.st.free b ((dom_set_same hm).mp hb)⟩⟩
  · by_cases q : b = a
    · subst q; obtain ⟨n, ho⟩ := hn; exact ⟨_, ho⟩
    · exact ⟨o, keep b o q e⟩
  · unfold Store.set at e
    by_cases hb : b = a
    · rw [if_pos hb] at e
      cases e
      subst hb
      exact ⟨us, hn, RepL.stay st _ _ hr⟩
    · rw [if_neg hb] at e
      refine MRep.stay st (fun b' o hb' ho => keep b' o (fun q => ?_) ho) (g.st.rep b mo e)
      subst q
      rcases hb' with q | ⟨C, fs, rfl⟩
      · exact hb q.symm
      · have := (g.st.apart b C _ fs e).1
        rw [hm] at this; cases this
  · unfold Store.set at e ⊢
    by_cases hx : x = a
    · rw [if_pos hx] at e; cases e
    · rw [if_neg hx] at e
      obtain ⟨h1, h2⟩ := g.st.apart x C dx fs e
      refine ⟨?_, fun y C' fs' e' => ?_⟩
      · rw [if_neg (fun q : dx = a => by subst q; rw [hm] at h1; cases h1)]; exact h1
      · by_cases hy : y = a
        · rw [if_pos hy] at e'; cases e'
        · rw [if_neg hy] at e'; exact h2 y C' fs' e'

theorem app_sound {d e : D} {v u : Value} (g : Good c nm vs env ρ σ P s) (h : appS d e σ Φ) (hr : Rep (nd σ P) s.heap d v) (hu : Rep (nd σ P) s.heap e u)
    (hQ : ∀ v d σ' s', Φ d σ' → Step noF σ σ' s s' → StoreOk σ' P s'.heap → Rep (nd σ' P) s'.heap d v → Q v s') : wpAny c.M A (call (.builtin "list.append") [v, u]) Q E s := by
  unfold appS at h
  split at h
  · rename_i a
    obtain ⟨xs, hm, hn, h⟩ := h
    simp only [Rep] at hr
    subst hr
    obtain ⟨us, hl, hw⟩ := g.st.rep a _ hm
    have el := hw.length
    simp only [Array.length_toList] at el
    refine wpAny_list_append_plain hl (fun h' hl' hs => ?_) (by have := sizeLine_small; omega)
    obtain ⟨st, ok⟩ := upd_mut (tk := s.toks) g hm hs hl' (ys := xs ++ [e]) (by
      have := RepL.append hw (RepL.one hu)
      simpa using this)
    exact hQ _ .none _ _ h st ok rep_none
  · exact h.elim

theorem bi_len {d : D} {v : Value} (g : Good c nm vs env ρ σ P s) (h : ∃ xs, asL σ d = some xs ∧ xs.length ≤ small ∧ Φ (.int xs.length) σ) (hv : Rep (nd σ P) s.heap d v)
    (hQ : ∀ v d σ' s', Φ d σ' → Step noF σ σ' s s' → StoreOk σ' P s'.heap → Rep (nd σ' P) s'.heap d v → Q v s') : wpAny c.M A (call (.builtin "len") [v]) Q E s := by
  obtain ⟨xs, e, hn, h⟩ := h
  obtain ⟨a, ws, rfl, hl, hw⟩ := asL_heap g.st hv e
  have el := hw.length
  rw [Array.length_toList] at el
  rw [← el] at hn h
  have fin : Q (.int ws.size (s.toks + 1)) { s with toks := s.toks + 1 + 1 } := fin_keeps g hQ h (keeps_toks s _) rep_int
  exact hl.elim (fun hl => Calls.call_len_list hl (small_63 hn) fin) fun hl => PyProof.Rows.len_tuple hl (small_63 hn) fin
theorem bi_list {m : Bool} {d : D} {v : Value} (g : Good c nm vs env ρ σ P s) (h : ∃ xs, asL σ d = some xs ∧ xs.length ≤ small ∧ mkS m xs σ Φ) (hv : Rep (nd σ P) s.heap d v)
    (hQ : ∀ v d σ' s', Φ d σ' → Step noF σ σ' s s' → StoreOk σ' P s'.heap → Rep (nd σ' P) s'.heap d v → Q v s') : wpAny c.M A (call (.type "list") [v]) Q E s := by
  obtain ⟨xs, e, hn, h⟩ := h
  obtain ⟨a, ws, rfl, hl, hw⟩ := asL_heap g.st hv e
  have el := hw.length
  rw [Array.length_toList] at el
  have hsz : ws.size ≤ sizeLine := by rw [el]; exact Nat.le_trans hn sizeLine_small
  have fin : ∀ h' c', (∀ b o', s.heap.get? b = some o' → h'.get? b = some o') → h'.get? s.heap.objs.size = some { cls := .type "list", dict := none, data := .seq ws c', slots := #[] } → Q (.ref s.heap.objs.size) { s with heap := h' } :=
    fun h' c' hk hD => fin_list g h hQ ⟨h', s.toks, rfl, hk⟩ (get?_size_none _) (us := ws.toList) ⟨c', by rw [Array.toArray_toList]; exact hD⟩ hw
  rcases hl with ⟨o, ho, hc, n, hd⟩ | ⟨o, ho, hc, n, hd⟩
  · exact call_list_seq (hsz := hsz) a (.inl rfl) ho hc hd fin
  · exact call_list_seq (hsz := hsz) a (.inr rfl) ho hc hd fin
theorem biS_sound {b : BI} {m : Bool} {ds : List D} {us : List Value} (hh : A.handled = none) (g : Good c nm vs env ρ σ P s) (h : biS b m ds σ Φ) (hr : RepL (nd σ P) s.heap ds us)
    (hQ : ∀ v d σ' s', Φ d σ' → Step noF σ σ' s s' → StoreOk σ' P s'.heap → Rep (nd σ' P) s'.heap d v → Q v s') : wpAny c.M A (call b.val us) Q E s := by
  cases b with
  | len => obtain ⟨d, v, rfl, hv, h⟩ := one_elim h hr; exact bi_len g h hv hQ
  | min2 =>
    obtain ⟨d, e, v, u, rfl, hv, hu, h⟩ := two_elim h hr
    obtain ⟨x, y, t, t', rfl, rfl, h⟩ := intS_elim h hv hu
    refine min_two_ints hh fun h' tk hk => ?_
    by_cases hc : y < x
    · rw [if_pos hc] at h ⊢
      exact fin_keeps g hQ h ⟨h', tk, rfl, hk⟩ rep_int
    · rw [if_neg hc] at h ⊢
      exact fin_keeps g hQ h ⟨h', tk, rfl, hk⟩ rep_int
  | list => obtain ⟨d, v, rfl, hv, h⟩ := one_elim h hr; exact bi_list g h hv hQ
  | sorted => obtain ⟨d, v, rfl, hv, h⟩ := one_elim h hr; exact bi_sorted g h hv hQ
  | tupleA => obtain ⟨d, v, rfl, hv, h⟩ := one_elim h hr; exact bi_tuple g h hv hQ
end
end Mine

open PySem PyProof.Rows
set_option Elab.async false
namespace Mine

theorem RepL.drop {N : Addr → Prop} {h : Heap} : ∀ {ds : List D} {vs : List Value}, RepL N h ds vs → ∀ n, RepL N h (ds.drop n) (vs.drop n)
  | ds, vs, x, 0 => by simpa using x
  | [], vs, x, n + 1 => by simp only [RepL] at x; subst x; simp [RepL]
  | d :: ds, vs, x, n + 1 => by
    simp only [RepL] at x
    obtain ⟨v, r, rfl, h1, h2⟩ := x
    simpa using RepL.drop h2 n
theorem RepL.take {N : Addr → Prop} {h : Heap} : ∀ {ds : List D} {vs : List Value}, RepL N h ds vs → ∀ n, RepL N h (ds.take n) (vs.take n)
  | ds, vs, x, 0 => by simp [RepL]
  | [], vs, x, n + 1 => by simp only [RepL] at x; subst x; simp [RepL]
  | d :: ds, vs, x, n + 1 => by
    simp only [RepL] at x
    obtain ⟨v, r, rfl, h1, h2⟩ := x
    simpa using RepL.cons h1 (RepL.take h2 n)

section
variable {c : Cx} {A : Around} {nm : Nat → Str} {vs : List Nat} {env : Env} {ρ : PEnv} {σ : Store} {P : Addr → Prop} {s : Shared} {Q : Value → Shared → Prop} {E : Value → Shared → Prop} {Φ : D → Store → Prop}

/-- parts of a slice as values -/
theorem partI_part {o : Option D} {l : Option Int} {v : Value} (e : partI o = some l) (hv : (o = Option.none ∧ v = .none) ∨ ∃ d, o = some d ∧ Rep (nd σ P) s.heap d v) : IsPart v l := by
  rcases hv with ⟨rfl, rfl⟩ | ⟨d, rfl, hr⟩
  · simp only [partI] at e; cases e; exact .none
  · cases d <;> simp only [partI] at e <;> cases e
    simp only [Rep] at hr
    obtain ⟨t, rfl⟩ := hr
    exact .int _ t

theorem slcS_sound {m : Bool} {o : D} {lo hi : Option D} {v l u : Value} {sl : Addr} {value : Expr} {lower upper : Option Expr} {p : Pos} (g : Good c nm vs env ρ σ P s) (h : slcS m o lo hi σ Φ) (ha : Rep (nd σ P) s.heap o v)
    (hl : (lo = Option.none ∧ l = .none) ∨ ∃ d, lo = some d ∧ Rep (nd σ P) s.heap d l) (hu : (hi = Option.none ∧ u = .none) ∨ ∃ d, hi = some d ∧ Rep (nd σ P) s.heap d u) (hsl : s.heap.IsSliceOf sl l u .none)
    (hQ : ∀ v d σ' s', Φ d σ' → Step noF σ σ' s s' → StoreOk σ' P s'.heap → Rep (nd σ' P) s'.heap d v → Q v s') : wpAny c.M A (subscriptTail value (.Slice lower upper Option.none p) v (.ref sl)) Q E s := by
  obtain ⟨xs, x, y, e, ht, e1, e2, hn, h⟩ := h
  obtain ⟨a, us, rfl, hL, hr⟩ := asL_heap g.st ha e
  have el := hr.length
  simp only [Array.length_toList] at el
  have hL' : s.heap.IsList a us := by
    rcases hL with hL | hL
    · exact hL
    · exfalso
      cases o <;> simp only [isTuple, asL] at ht e <;> try cases e
      · cases ht
      · simp only [Rep] at ha
        obtain ⟨a', us', q, _, ⟨o', ho', hc', _⟩, _⟩ := ha
        cases q
        obtain ⟨o, ho, hc, _⟩ := hL
        rw [ho] at ho'; cases ho'; rw [hc] at hc'; exact absurd hc' (by decide)
      · rename_i b
        simp only [Rep] at ha
        cases ha
        cases hb : σ a with
        | none => rw [hb] at e; cases e
        | some mo =>
          rw [hb] at e
          cases mo with
          | mlist ds =>
            obtain ⟨us', ⟨n', ho'⟩, _⟩ := g.st.rep a _ hb
            obtain ⟨o, ho, hc, _⟩ := hL
            rw [ho] at ho'; cases ho'; exact absurd (show Value.type "list" = Value.type "tuple" from hc) (by decide)
          | inst C dx fs => cases e
          | mdict kvs => cases e
  refine tail_any hL'.typeIs slot_list_getitem.lookup (wpAny_getItem_list_slice hL' hsl (partI_part e1 hl) (partI_part e2 hu) .none (by simp) ?_ (by have := sizeLine_small; omega)) (ops := [.ref sl, .ref a]) rfl
  refine fin_list g h hQ (keeps_push' s _) (get?_size_none _) (us := (us.toList.drop (x.elim 0 (clipAt us.size))).take (y.elim us.size (clipAt us.size) - x.elim 0 (clipAt us.size))) ⟨0, ?_⟩ ?_
  · rw [← slicePick_plain]; exact Heap.get?_push_size _ rfl
  · unfold sliceD
    rw [← el]
    exact (hr.drop _).take _
end

/-! ### iteration -/

/-- an iterator at address I over the data ds; ok: what the iterated thing needs -/
structure Turns (c : Cx) (A : Around) (I : Addr) (ds : List D) (ok : Store → (Addr → Prop) → Heap → Prop) (It : Nat → Heap → Prop) : Prop where
  mv : ∀ k h h', It k h → (∀ o, h.get? I = some o → h'.get? I = some o) → It k h'
  alive : ∀ k h, It k h → ∃ o vs, h.get? I = some o ∧ o.data = .fields vs
  item : ∀ k d (s : Shared) σ P (Q : Option Value → Shared → Prop) (E : Value → Shared → Prop), ds[k]? = some d → It k s.heap → ok σ P s.heap →
    (∀ v h' tk, It (k + 1) h' → Heap.SameBut I s.heap h' → Rep (nd σ P) s.heap d v → Q (some v) { s with heap := h', toks := tk }) → wpAny c.M A (pyNext (.ref I)) Q E s
  done : ∀ (s : Shared) σ P (Q : Option Value → Shared → Prop) (E : Value → Shared → Prop), It ds.length s.heap → ok σ P s.heap →
    (∀ h' tk, Heap.ExtBut I s.heap h' → Q Option.none { s with heap := h', toks := tk }) → wpAny c.M A (pyNext (.ref I)) Q E s
  self : ∀ k (s : Shared) σ P (Q : Value → Shared → Prop) (E : Value → Shared → Prop), It k s.heap → ok σ P s.heap → Q (.ref I) s → wpAny c.M A (pyIter (.ref I)) Q E s

noncomputable def SeqOk (T : String) (ax : Addr) (ds : List D) (σ : Store) (P : Addr → Prop) (h : Heap) : Prop :=
  ∃ us, (if T = "list" then h.IsList ax us else h.IsTuple ax us) ∧ RepL (nd σ P) h ds us.toList

theorem Turns.list {c : Cx} {A : Around} (hh : A.handled = none) (I ax : Addr) (ds : List D) : Turns c A I ds (SeqOk "list" ax ds) (fun k h => h.IsListIter I ax k) where
  mv := fun k h h' x k' => x.at k'
  alive := fun k h x => by
    obtain ⟨o, ho, _, hd⟩ := x
    exact ⟨o, _, ho, hd⟩
  item := fun k d s σ P Q E hd it ok hQ => by
    obtain ⟨us, hl, hr⟩ := ok
    simp only [if_true] at hl
    obtain ⟨x, hx, hrx⟩ := hr.get hd
    exact wpAny_pyNext_list_item it hl (x := x) (by simpa using hx) fun h' hit' hs' => hQ x h' s.toks hit' hs' hrx
  done := fun s σ P Q E it ok hQ => by
    obtain ⟨us, hl, hr⟩ := ok
    simp only [if_true] at hl
    have el := hr.length
    simp only [Array.length_toList] at el
    exact wpAny_pyNext_list_end hh it hl (by rw [← el]; simp) fun h' he => hQ h' s.toks he
  self := fun k s σ P Q E it _ hQ => wpAny_pyIter_listiter it hQ

theorem Turns.tuple {c : Cx} {A : Around} (hh : A.handled = none) (I ax : Addr) (ds : List D) : Turns c A I ds (SeqOk "tuple" ax ds) (fun k h => h.IsTupleIter I ax k) where
  mv := fun k h h' x k' => let ⟨o, ho, r⟩ := x; ⟨o, k' o ho, r⟩
  alive := fun k h x => by
    obtain ⟨o, ho, _, hd⟩ := x
    exact ⟨o, _, ho, hd⟩
  item := fun k d s σ P Q E hd it ok hQ => by
    obtain ⟨us, hl, hr⟩ := ok
    rw [if_neg (by decide)] at hl
    obtain ⟨x, hx, hrx⟩ := hr.get hd
    exact wpAny_pyNext_tuple_item it hl (x := x) (by simpa using hx) fun h' hit' hs' => hQ x h' s.toks hit' hs' hrx
  done := fun s σ P Q E it ok hQ => by
    obtain ⟨us, hl, hr⟩ := ok
    rw [if_neg (by decide)] at hl
    have el := hr.length
    simp only [Array.length_toList] at el
    exact wpAny_pyNext_tuple_end hh it hl (by rw [← el]; simp) fun h' he => hQ h' s.toks he
  self := fun k s σ P Q E it ok hQ => by
    obtain ⟨us, hl, hr⟩ := ok
    rw [if_neg (by decide)] at hl
    refine (Walks.tuple (prog := c.prog) (w := c.w) hh I ax ?_ us).self k s Q E ⟨it, hl⟩ hQ
    intro e
    obtain ⟨o, ho, _, n, hd⟩ := hl
    obtain ⟨o', ho', _, hd'⟩ := it
    rw [e, ho'] at ho; cases ho; rw [hd] at hd'; cases hd'

theorem rangeD_get {n : Int} {k : Nat} {d : D} (h : (rangeD n)[k]? = some d) : d = .int k ∧ (k : Int) < n := by
  unfold rangeD at h
  rw [List.getElem?_map] at h
  cases e : (List.range n.toNat)[k]? with
  | none => rw [e] at h; cases h
  | some j =>
    rw [e] at h
    cases h
    obtain ⟨h1, h2⟩ := List.getElem?_eq_some_iff.mp e
    simp only [List.length_range] at h1
    simp only [List.getElem_range] at h2
    subst h2
    exact ⟨rfl, by omega⟩
theorem rangeD_length (n : Int) : (rangeD n).length = n.toNat := by simp [rangeD]

theorem Turns.range {c : Cx} {A : Around} (hh : A.handled = none) (I : Addr) (n : Int) : Turns c A I (rangeD n) (fun _ _ _ => True) (fun k h => IsRangeIter h I (k : Int) ((n.toNat : Int) - k) 1) where
  mv := fun k h h' x k' => k' _ x
  alive := fun k h x => ⟨_, _, x, rfl⟩
  item := fun k d s σ P Q E hd it _ hQ => by
    obtain ⟨rfl, hk⟩ := rangeD_get hd
    refine wpAny_pyNext_range_item it (by omega) fun h' hit' hs' => hQ _ h' _ ?_ hs' rep_int
    have e1 : ((k + 1 : Nat) : Int) = (k : Int) + 1 := by omega
    have e2 : (n.toNat : Int) - ((k + 1 : Nat) : Int) = (n.toNat : Int) - k - 1 := by omega
    rw [e1]; rw [e1] at e2; rw [e2]; exact hit'
  done := fun s σ P Q E it _ hQ => by
    rw [rangeD_length] at it
    exact wpAny_pyNext_range_end hh it (by omega) fun h' he => hQ h' s.toks he
  self := fun k s σ P Q E it _ hQ => by
    refine (Walks.range (prog := c.prog) (w := c.w) hh I 0 1 n.toNat).self k s Q E ?_ hQ
    show IsRangeIter s.heap I (0 + (k : Nat) * 1) ((n.toNat : Int) - (k : Nat)) 1
    rw [Int.mul_one, Int.zero_add]; exact it
end Mine

open PySem PySem.W PyProof.Rows
set_option Elab.async false
namespace Mine

/-! ### objects of the store that change in place -/
noncomputable def ext (mo : MObj) (x : Addr) : Prop := ∃ C fs, mo = .inst C x fs
theorem dom_set_gen {σ : Store} {a x : Addr} {mo mo' : MObj} (hm : σ a = some mo) (he : ∀ x, ext mo' x ↔ ext mo x) : dom (σ.set a mo') x ↔ dom σ x := by
  unfold dom Store.set
  constructor
  · rintro (q | ⟨y, C, fs, q⟩)
    · left
      by_cases e : x = a
      · subst e; rw [hm]; exact Option.some_ne_none _
      · rw [if_neg e] at q; exact q
    · right
      by_cases e : y = a
      · rw [if_pos e] at q
        cases q
        obtain ⟨C', fs', e'⟩ := (he x).mp ⟨C, fs, rfl⟩
        exact ⟨a, C', fs', by rw [hm, e']⟩
      · rw [if_neg e] at q; exact ⟨y, C, fs, q⟩
  · rintro (q | ⟨y, C, fs, q⟩)
    · left
      by_cases e : x = a
      · rw [if_pos e]; exact Option.some_ne_none _
      · rw [if_neg e]; exact q
    · right
      by_cases e : y = a
      · subst e
        rw [hm] at q
        cases q
        obtain ⟨C', fs', e'⟩ := (he x).mpr ⟨C, fs, rfl⟩
        exact ⟨y, C', fs', by rw [if_pos rfl, e']⟩
      · exact ⟨y, C, fs, by rw [if_neg e]; exact q⟩

section
variable {c : Cx} {A : Around} {nm : Nat → Str} {vs : List Nat} {env : Env} {ρ : PEnv} {σ : Store} {P : Addr → Prop} {s : Shared} {Q : Value → Shared → Prop} {E : Value → Shared → Prop} {Φ : D → Store → Prop}

theorem upd_gen (g : Good c nm vs env ρ σ P s) {a b : Addr} {mo mo' : MObj} (hm : σ a = some mo) (he : ∀ x, ext mo' x ↔ ext mo x) (hb : b = a ∨ ext mo b) {h' : Heap} {tk : Nat} (hs : Heap.SameBut b s.heap h') (hal : ∃ o, h'.get? b = some o)
    (hr : Stay (nd σ P) (nd (σ.set a mo') P) s.heap h' → MRep (σ.set a mo') P h' a mo') :
    Step noF σ (σ.set a mo') s { s with heap := h', toks := tk } ∧ StoreOk (σ.set a mo') P h' := by
  have hdb : dom σ b := hb.elim (fun e => .inl (by rw [e, hm]; exact Option.some_ne_none _)) (fun ⟨C, fs, e⟩ => .inr ⟨a, C, fs, by rw [hm, e]⟩)
  have hd : ∀ x, dom (σ.set a mo') x ↔ dom σ x := fun x => dom_set_gen hm he
  have keep : ∀ x o, x ≠ b → s.heap.get? x = some o → h'.get? x = some o := fun x o hx e => hs.extBut x o hx e
  have st : Stay (nd σ P) (nd (σ.set a mo') P) s.heap h' := fun x o items n hN ho _ => ⟨keep x o (fun q => hN.1 (q ▸ hdb)) ho, fun q => hN.1 ((hd x).mp q), hN.2⟩
  refine ⟨⟨⟨h', tk, rfl⟩, fun x o e hx _ => keep x o (fun q => hx (q ▸ hdb)) e, fun x o e => ?_, fun x hx => .inl ((hd x).mp hx)⟩, ⟨fun x m e => ?_, fun x C dx fs e => ?_, fun x hx => g.st.free x ((hd x).mp hx)⟩⟩
  · by_cases q : x = b
    · rw [q]; exact hal
    · exact ⟨o, keep x o q e⟩
  · unfold Store.set at e
    by_cases hx : x = a
    · rw [if_pos hx] at e
      cases e
      subst hx
      exact hr st
    · rw [if_neg hx] at e
      refine MRep.stay st (fun y o hy ho => keep y o (fun q => ?_) ho) (g.st.rep x m e)
      subst q
      rcases hy with q | ⟨C, fs, rfl⟩
      · rcases hb with q' | ⟨C, fs, e'⟩
        · exact hx (q.symm.trans q')
        · have := (g.st.apart a C y fs (by rw [hm, e'])).1
          rw [q, e] at this; cases this
      · rcases hb with q' | ⟨C', fs', e'⟩
        · have := (g.st.apart x C y fs e).1
          rw [q', hm] at this; cases this
        · exact hx ((g.st.apart a C' y fs' (by rw [hm, e'])).2 x C fs e)
  · unfold Store.set at e ⊢
    have key : ∀ y C' fs', (if y = a then some mo' else σ y) = some (MObj.inst C' dx fs') → ∃ fs'' C'', σ y = some (.inst C'' dx fs'') := fun y C' fs' e' => by
      by_cases hy : y = a
      · rw [if_pos hy] at e'
        cases e'
        obtain ⟨C'', fs'', e''⟩ := (he dx).mp ⟨C', fs', rfl⟩
        exact ⟨fs'', C'', by rw [hy, hm, e'']⟩
      · rw [if_neg hy] at e'; exact ⟨fs', C', e'⟩
    obtain ⟨f1, C1, e1⟩ := key x C fs e
    obtain ⟨h1, h2⟩ := g.st.apart x C1 dx f1 e1
    refine ⟨?_, fun y C' fs' e' => ?_⟩
    · rw [if_neg (fun q : dx = a => by rw [q, hm] at h1; cases h1)]; exact h1
    · obtain ⟨f2, C2, e2⟩ := key y C' fs' e'
      exact h2 y C2 f2 e2

/-! ### instances -/
theorem entS_get {N : Addr → Prop} {h : Heap} {name : Str} {d : D} : ∀ {es : List DictEntry} {fs : List (Str × D)} {us : List Value}, EntS es (fs.map (·.1)) us → RepL N h (fs.map (·.2)) us → getF name fs = some d → ∃ v, getL name es = some (some v) ∧ Rep N h d v
  | [], [], _, _, _, e => by cases e
  | e :: es, [], _, x, _, _ => by simp [EntS] at x
  | [], f :: fs, us, x, _, _ => by cases us <;> simp [EntS] at x
  | e :: es, (k, y) :: fs, us, x, r, q => by
    cases us with
    | nil => simp [EntS] at x
    | cons v us =>
      simp only [List.map_cons, EntS] at x
      obtain ⟨⟨t, hk⟩, hv, x⟩ := x
      simp only [List.map_cons, RepL] at r
      obtain ⟨v', us', e', hr, r⟩ := r
      cases e'
      unfold getF at q
      by_cases hn : k = name
      · rw [if_pos hn] at q
        cases q
        refine ⟨v, ?_, hr⟩
        unfold getL
        rw [List.find?_cons_of_pos (by rw [hk]; simpa [Value.isStr] using hn)]
        simp only [hv]
      · rw [if_neg hn] at q
        obtain ⟨w, h1, h2⟩ := entS_get x r q
        refine ⟨w, ?_, h2⟩
        have hns : e.key.isStr name = false := by rw [hk]; simpa [Value.isStr] using hn
        have hrk : e.refKey = false := by unfold DictEntry.refKey; rw [hk]
        unfold getL at h1 ⊢
        rw [List.find?_cons_of_neg (by rw [hns]; exact Bool.false_ne_true), List.any_cons, hrk, Bool.false_or]
        exact h1
theorem entS_none {name : Str} : ∀ {es : List DictEntry} {fs : List (Str × D)} {us : List Value}, EntS es (fs.map (·.1)) us → getF name fs = Option.none → getL name es = some Option.none
  | [], [], _, _, _ => rfl
  | e :: es, [], _, x, _ => by simp [EntS] at x
  | [], f :: fs, us, x, _ => by cases us <;> simp [EntS] at x
  | e :: es, (k, y) :: fs, us, x, q => by
    cases us with
    | nil => simp [EntS] at x
    | cons v us =>
      simp only [List.map_cons, EntS] at x
      obtain ⟨⟨t, hk⟩, hv, x⟩ := x
      unfold getF at q
      by_cases hn : k = name
      · rw [if_pos hn] at q; cases q
      · rw [if_neg hn] at q
        have h1 := entS_none x q
        have hns : e.key.isStr name = false := by rw [hk]; simpa [Value.isStr] using hn
        have hrk : e.refKey = false := by unfold DictEntry.refKey; rw [hk]
        unfold getL at h1 ⊢
        rw [List.find?_cons_of_neg (by rw [hns]; exact Bool.false_ne_true), List.any_cons, hrk, Bool.false_or]
        exact h1
theorem entS_some {es : List DictEntry} {fs : List (Str × D)} {us : List Value} {name : Str} {N : Addr → Prop} {h : Heap} (x : EntS es (fs.map (·.1)) us) (r : RepL N h (fs.map (·.2)) us) : (getL name es).isSome = true := by
  cases e : getF name fs with
  | none => rw [entS_none x e]; rfl
  | some d => obtain ⟨v, h1, _⟩ := entS_get x r e; rw [h1]; rfl
theorem entS_put {N : Addr → Prop} {h : Heap} {name : Str} {d : D} {v : Value} {hsh : Int} {t : Tok} (hd : Rep N h d v) : ∀ {es : List DictEntry} {fs : List (Str × D)} {us : List Value}, EntS es (fs.map (·.1)) us → RepL N h (fs.map (·.2)) us →
    ∃ us', EntS (putL name hsh (.str name t) v es) ((putF name d fs).map (·.1)) us' ∧ RepL N h ((putF name d fs).map (·.2)) us'
  | [], [], us, x, r => by
    refine ⟨[v], ?_, RepL.one hd⟩
    simp only [putL, putF, List.map_cons, List.map_nil, EntS]
    exact ⟨⟨t, rfl⟩, trivial, trivial⟩
  | e :: es, [], _, x, _ => by simp [EntS] at x
  | [], f :: fs, us, x, _ => by cases us <;> simp [EntS] at x
  | e :: es, (k, y) :: fs, us, x, r => by
    cases us with
    | nil => simp [EntS] at x
    | cons u us =>
      simp only [List.map_cons, EntS] at x
      obtain ⟨⟨tk, hk⟩, hv, x⟩ := x
      simp only [List.map_cons, RepL] at r
      obtain ⟨v', us', e', hr, r⟩ := r
      cases e'
      unfold putF putL
      by_cases hn : k = name
      · rw [if_pos hn, if_pos (by rw [hk]; simpa [Value.isStr] using hn)]
        refine ⟨v :: us, ?_, RepL.cons hd r⟩
        simp only [List.map_cons, EntS]
        exact ⟨⟨tk, hk⟩, trivial, x⟩
      · rw [if_neg hn, if_neg (by rw [hk]; simpa [Value.isStr] using hn)]
        obtain ⟨us', h1, h2⟩ := entS_put hd x r
        refine ⟨u :: us', ?_, RepL.cons hr h2⟩
        simp only [List.map_cons, EntS]
        exact ⟨⟨tk, hk⟩, hv, h1⟩
theorem putL_length (name : Str) (hsh : Int) (key v : Value) : ∀ es : List DictEntry, (putL name hsh key v es).length ≤ es.length + 1
  | [] => Nat.le_refl _
  | e :: r => by
    unfold putL
    split
    · simp
    · simpa using putL_length name hsh key v r
theorem mem_putF {name : Str} {d : D} {y : Str} : ∀ {fs : List (Str × D)}, y ∈ (putF name d fs).map (·.1) → y ∈ fs.map (·.1) ∨ y = name
  | [], h => by simpa [putF] using h
  | (k, x) :: r, h => by
    unfold putF at h
    split at h
    · left; simpa using h
    · simp only [List.map_cons, List.mem_cons] at h ⊢
      rcases h with h | h
      · exact .inl (.inl h)
      · exact (mem_putF h).imp .inr id
theorem nodup_putF {name : Str} {d : D} : ∀ {fs : List (Str × D)}, (fs.map (·.1)).Nodup → ((putF name d fs).map (·.1)).Nodup
  | [], _ => by simp [putF]
  | (k, x) :: r, h => by
    simp only [List.map_cons, List.nodup_cons] at h
    unfold putF
    split
    · simp only [List.map_cons, List.nodup_cons]; exact h
    · rename_i hn
      simp only [List.map_cons, List.nodup_cons]
      exact ⟨fun q => (mem_putF q).elim h.1 hn, nodup_putF h.2⟩

structure AttrOk (K : Frag) (C : Addr) (name : Str) : Prop where
  get : plainGet K C name = true
  has : hasDictIn K C = true
  own : ∃ attr, findIn K (.ref C) name = some attr ∧ noGet K attr = true
structure SetOk (K : Frag) (C : Addr) (name : Str) : Prop where
  set : findIn K (.ref C) "__setattr__" = some (some (.builtin "object.__setattr__"))
  over : plainOver K C = true
  taker : takerIn K C name = some Option.none
  has : hasDictIn K C = true
structure MethOk (K : Frag) (C : Addr) (name : Str) (f : Addr) : Prop where
  get : plainGet K C name = true
  fn : findIn K (.ref C) name = some (some (.ref f))
  isf : isFn K (.ref f) = true
  keep : keepIn K (.ref f) = true
structure NewOk (K : Frag) (C : Addr) (f : Addr) : Prop where
  makes : makesIn K C = true
  init : findIn K (.ref C) "__init__" = some (some (.ref f))
  isf : isFn K (.ref f) = true
  keep : keepIn K (.ref C) = true

theorem kin (g : Good c nm vs env ρ σ P s) : c.K.In s.heap := c.KX.keeps g.base

theorem attr_sound {a C dx : Addr} {fs : List (Str × D)} {name : Str} {d : D} {expr : Bool} (g : Good c nm vs env ρ σ P s) (ha : AttrOk c.K C name) (hm : σ a = some (.inst C dx fs)) (hg : getF name fs = some d) (h : Φ d σ)
    (hQ : ∀ v d σ' s', Φ d σ' → Step noF σ σ' s s' → StoreOk σ' P s'.heap → Rep (nd σ' P) s'.heap d v → Q v s') : wpAny c.M A (getAttr (.ref a) name expr) Q E s := by
  obtain ⟨n, es, us, h1, h2, h3, h4, h5, h6⟩ := g.st.rep a _ hm
  obtain ⟨v, hv, hr⟩ := entS_get h3 h5 hg
  obtain ⟨attr, ho, hn⟩ := ha.own
  have hnb : handedIn v = true := by
    cases d <;> simp only [Rep] at hr
    · subst hr; rfl
    · subst hr; rfl
    · obtain ⟨t, rfl⟩ := hr; rfl
    · obtain ⟨t, rfl⟩ := hr; rfl
    · obtain ⟨b, _, rfl, _⟩ := hr; rfl
    · obtain ⟨b, _, rfl, _⟩ := hr; rfl
    · subst hr; rfl
  refine get_value (kin g) (od := some (dictOf es n)) ⟨h1, rfl, rfl, h2⟩ (plainGet_of ha.get).1 (findObj_own ha.has ho hn hv) hnb ?_
  exact fin_keeps g hQ h (keeps_toks s _) hr

theorem setattr_sound {a C dx : Addr} {fs : List (Str × D)} {name : Str} {d : D} {v : Value} {Q : Unit → Shared → Prop} (g : Good c nm vs env ρ σ P s) (ha : SetOk c.K C name) (hm : σ a = some (.inst C dx fs)) (hl : fs.length ≤ 900) (hv : Rep (nd σ P) s.heap d v)
    (hQ : ∀ s', Step noF σ (σ.set a (.inst C dx (putF name d fs))) s s' → StoreOk (σ.set a (.inst C dx (putF name d fs))) P s'.heap → Q () s') : wpAny c.M A (setAttr (.ref a) name v) Q E s := by
  obtain ⟨n, es, us, h1, h2, h3, h4, h5, h6, h7⟩ := g.st.rep a _ hm
  have X := kin g
  have hlen : es.length = fs.length := by
    have : ∀ {es : List DictEntry} {ks : List Str} {us : List Value}, EntS es ks us → es.length = ks.length := by
      intro es
      induction es with
      | nil => intro ks us x; cases ks <;> cases us <;> simp [EntS] at x ⊢
      | cons e es ih => intro ks us x; cases ks <;> cases us <;> simp [EntS] at x ⊢; exact ih x.2.2
    simpa using this h3
  have I : W.InstAt s.heap a ({ cls := .ref C, dict := some dx, data := .plain } : Obj) C (some (dictOf es n)) := ⟨h1, rfl, rfl, h2⟩
  refine set_plain X I ha.set ?_
  refine osa_open (s := { s with toks := s.toks + 1 }) X I ha.over ha.taker fun b => ?_
  obtain ⟨cd, hc, hd'⟩ := any_some ha.has
  have X1 : c.K.In ({ s with toks := s.toks + 1 } : Shared).heap := X
  refine wpAny_bind (wpAny_pure (wpAny_bind (wpAny_bind (wpAny_loadPart h1 (wpAny_bind ((looks_clsIn X1 hc).here (s := { s with toks := s.toks + 1 }) ?_))))))
  rw [hd']
  refine wpAny_pure (a := some dx) (wpAny_bind (wpAny_pure (wpAny_bind ?_)))
  unfold nsSet
  refine wpAny_bind (wpAny_bind (wpAny_askSetting (wpAny_pure (wpAny_bind (wpAny_mkText (wpAny_bind (wpAny_loadPart h2 ?_)))))))
  dsimp only
  have c1 : aRefKeyMayBeTheName name es.toArray = false := by
    rw [aRefKeyMayBeTheName_at]
    have hs := entS_some (name := name) h3 h5
    unfold getL at hs
    rw [← Array.any_toList, ← Array.any_toList]
    split at hs
    · rename_i en he
      rw [List.any_eq_true.mpr ⟨en, List.mem_of_find?_eq_some he, List.find?_some he⟩]; rfl
    · split at hs
      · cases hs
      · rename_i z; rw [Bool.not_eq_true] at z; rw [z, Bool.and_false]
  rw [c1]
  refine wpAny_updatePart h2 ?_
  have e1 : Obj.putName name (PyData.keyHash c.w.params name) (.str name (s.toks + 1)) v (dictOf es n) = dictOf (putL name (PyData.keyHash c.w.params name) (.str name (s.toks + 1)) v es) (putN name es n) := putName_dict ..
  have h2' : (s.heap.update dx (Obj.putName name (PyData.keyHash c.w.params name) (.str name (s.toks + 1)) v)).get? dx = some (dictOf (putL name (PyData.keyHash c.w.params name) (.str name (s.toks + 1)) v es) (putN name es n)) := by
    have := Heap.get?_update_self (Obj.putName name (PyData.keyHash c.w.params name) (.str name (s.toks + 1)) v) h2 (by rw [e1]; rfl)
    rw [e1] at this; exact this
  have hpl := putL_length name (PyData.keyHash c.w.params name) (.str name (s.toks + 1)) v es
  refine wpAny_bind (wpAny_lookBehind h2' (by exact pastItsLine_dict (by rw [List.size_toArray, sizeLine_eq]; omega)) ?_)
  refine wpAny_pure ?_
  have hsb := Heap.SameBut.update s.heap dx (Obj.putName name (PyData.keyHash c.w.params name) (.str name (s.toks + 1)) v)
  obtain ⟨st, ok⟩ := upd_gen (b := dx) (mo' := .inst C dx (putF name d fs)) (tk := s.toks + 1 + 1) g hm (fun x => ⟨fun ⟨C', fs', e⟩ => by cases e; exact ⟨_, _, rfl⟩, fun ⟨C', fs', e⟩ => by cases e; exact ⟨_, _, rfl⟩⟩) (.inr ⟨C, fs, rfl⟩) hsb ⟨_, h2'⟩ fun sty => by
    obtain ⟨us', q1, q2⟩ := entS_put (t := s.toks + 1) (hsh := PyData.keyHash c.w.params name) hv h3 h5
    exact ⟨_, _, us', hsb.extBut a _ h7.symm h1, h2', q1, by omega, RepL.stay sty _ _ q2, nodup_putF h6, h7⟩
  exact hQ _ st ok

theorem method_sound {a C dx f : Addr} {fs : List (Str × D)} {name : Str} {pl : Sem Bool} {Q : Value × List Value → Shared → Prop} (g : Good c nm vs env ρ σ P s) (ha : MethOk c.K C name f) (hm : σ a = some (.inst C dx fs)) (hn : getF name fs = Option.none)
    (h : Q (.ref f, [.ref a]) s) : wpAny c.M A (getMethod (.ref a) name pl) Q E s := by
  obtain ⟨n, es, us, h1, h2, h3, h4, h5, h6⟩ := g.st.rep a _ hm
  refine method_fn (kin g) (od := some (dictOf es n)) ⟨h1, rfl, rfl, h2⟩ (plainGet_of ha.get).1 (plainGet_of ha.get).2 ha.fn (beq_iff_eq.mp ha.isf) ?_ h
  show (lookIn name (dictOf es n)).map _ = _
  rw [lookIn_dict, entS_none h3 hn]; rfl
end
end Mine

open PySem PySem.W PyProof.Rows
set_option Elab.async false
set_option maxRecDepth 100000
namespace Mine

noncomputable def LM.id : LM → String
  | .insert => "list.insert"
  | .pop => "list.pop"

theorem dom_set_any {σ : Store} {a b : Addr} {mo : MObj} : dom (σ.set a mo) b → dom σ b ∨ b = a ∨ ext mo b := by
  rintro (h | ⟨x, C, fs, h⟩)
  · unfold Store.set at h
    by_cases e : b = a
    · exact .inr (.inl e)
    · rw [if_neg e] at h; exact .inl (.inl h)
  · unfold Store.set at h
    by_cases e : x = a
    · rw [if_pos e] at h; cases h; exact .inr (.inr ⟨C, fs, rfl⟩)
    · rw [if_neg e] at h; exact .inl (.inr ⟨x, C, fs, h⟩)

section
variable {c : Cx} {A : Around} {nm : Nat → Str} {vs : List Nat} {env : Env} {ρ : PEnv} {σ : Store} {P : Addr → Prop} {s : Shared} {Q : Value → Shared → Prop} {E : Value → Shared → Prop} {Φ : D → Store → Prop}

theorem Good.not_dom (g : Good c nm vs env ρ σ P s) {a : Addr} (ha : s.heap.get? a = none) : ¬ dom σ a := fun hd => by obtain ⟨o, ho⟩ := g.st.alive hd; rw [ha] at ho; cases ho
theorem fresh_of_not_dom {σ : Store} {a : Addr} (nda : ¬ dom σ a) : freshIn σ a := ⟨by
    cases e : σ a with
    | none => rfl
    | some m => exact absurd (Or.inl (by rw [e]; exact Option.some_ne_none m)) nda, fun x C fs e => nda (.inr ⟨x, C, fs, e⟩)⟩

/-- a new object of the store -/
theorem alloc_gen (g : Good c nm vs env ρ σ P s) {mo : MObj} {a : Addr} {s' : Shared} (k : Keeps s s') (ha : s.heap.get? a = none) (hx : ∀ x, ext mo x → s.heap.get? x = none ∧ x ≠ a)
    (hr : Stay (nd σ P) (nd (σ.set a mo) P) s.heap s'.heap → MRep (σ.set a mo) P s'.heap a mo) :
    Step noF σ (σ.set a mo) s s' ∧ StoreOk (σ.set a mo) P s'.heap := by
  have kh := keeps_heap k
  have gone : ∀ b, b = a ∨ ext mo b → s.heap.get? b = none := fun b hb => hb.elim (fun e => e ▸ ha) fun e => (hx b e).1
  have st : Stay (nd σ P) (nd (σ.set a mo) P) s.heap s'.heap := fun b o items n hN ho _ => ⟨kh b o ho, fun hd => (dom_set_any hd).elim hN.1 (fun e => by rw [gone b e] at ho; cases ho), hN.2⟩
  refine ⟨⟨(Step.of_keeps (F := noF) (σ := σ) k).same, fun b o e _ _ => kh b o e, fun b o e => ⟨o, kh b o e⟩, fun b hb => (dom_set_any hb).imp id (gone b)⟩, ⟨fun b m e => ?_, fun x C dx fs e => ?_, fun b hb => ?_⟩⟩
  · unfold Store.set at e
    by_cases hb : b = a
    · rw [if_pos hb] at e
      cases e
      subst hb
      exact hr st
    · rw [if_neg hb] at e
      exact (g.st.rep b m e).stay st fun b' o _ ho => kh b' o ho
  · unfold Store.set at e ⊢
    have nda := g.not_dom ha
    by_cases hxa : x = a
    · rw [if_pos hxa] at e; cases e
      obtain ⟨h1, h2⟩ := hx dx ⟨C, fs, rfl⟩
      have nd2 := fresh_of_not_dom (g.not_dom h1)
      refine ⟨by rw [if_neg h2]; exact nd2.1, fun y C' fs' e' => ?_⟩
      by_cases hy : y = a
      · exact hy.trans hxa.symm
      · rw [if_neg hy] at e'; exact absurd e' (nd2.2 y C' fs')
    · rw [if_neg hxa] at e
      obtain ⟨h1, h2⟩ := g.st.apart x C dx fs e
      have hdx : dom σ dx := .inr ⟨x, C, fs, e⟩
      refine ⟨?_, fun y C' fs' e' => ?_⟩
      · rw [if_neg (fun q : dx = a => nda (q ▸ hdx))]; exact h1
      · by_cases hy : y = a
        · rw [if_pos hy] at e'
          cases e'
          exact absurd hdx (g.not_dom (hx dx ⟨C', fs', rfl⟩).1)
        · rw [if_neg hy] at e'; exact h2 y C' fs' e'
  · rcases dom_set_any hb with h | h
    · exact g.st.free b h
    · intro hp
      obtain ⟨o, ho⟩ := g.prot _ hp
      rw [gone b h] at ho; cases ho

/-! ### dicts -/
theorem set_plain_item {l : Addr} {items : Array Value} {k : Int} {t : Tok} {v : Value} {Q : Unit → Shared → Prop} (hl : s.heap.PlainList l items) (h0 : 0 ≤ k) (hfit : k < 2 ^ 63) (hn : k < items.size)
    (hQ : ∀ h', h'.PlainList l (items.setIfInBounds k.toNat v) → Heap.SameBut l s.heap h' → Q () { s with heap := h' }) : wpAny c.M A (setItem (.ref l) (.int k t) v) Q E s := by
  have hL := hl.isList
  obtain ⟨ne, ho⟩ := hl
  unfold setItem
  refine wpAny_holding ?_
  refine wpAny_bind (wpAny_sequenceKey hL.typeIs (by decide) ?_)
  refine wpAny_bind (wpAny_callSpecial?_slot (name := Str.ofString "__setitem__") hL.typeIs slot_list_setitem
    (wpAny_call_entry slot_list_setitem hL.typeIs entry_list_setitem ?_ (args_list_setitem _ _ _)))
  show wpAny _ _ (Builtin.List.listSubscript? (.int k t) >>= _) _ _ s
  refine wpAny_bind (wpAny_listSubscript_int (fitsIndex_of h0 hfit) ?_)
  clear hfit
  obtain ⟨j, rfl⟩ := Int.eq_ofNat_of_zero_le h0
  have hj : j < items.size := by omega
  have hx' : items[j]? = some items[j] := Array.getElem?_eq_getElem hj
  show wpAny _ _ ((seqItemAt l j >>= fun r => pure (r.map (j, ·))) >>= _) _ _ s
  refine wpAny_bind (wpAny_bind (wpAny_seqItemAt ho rfl (wpAny_pure ?_)))
  rw [hx']
  show wpAny _ _ (setSeqItemAt l j v >>= _) _ _ s
  have hfin : (s.heap.update l (Obj.mapSeq (·.setIfInBounds j v))).PlainList l (items.setIfInBounds j v) := ⟨_, get?_update_seq ho _⟩
  refine wpAny_bind (wpAny_setSeqItemAt ho rfl ?_)
  exact wpAny_pure ⟨.none, rfl, wpAny_pure (hQ _ hfin (Heap.SameBut.update ..))⟩

theorem repL_set {N : Addr → Prop} {h : Heap} {d : D} {v : Value} (hd : Rep N h d v) : ∀ {ds : List D} {us : List Value} {i : Nat}, RepL N h ds us → RepL N h (ds.set i d) (us.set i v)
  | [], us, i, x => by simp only [RepL] at x; subst x; simp [RepL]
  | e :: ds, us, 0, x => by
    simp only [RepL] at x
    obtain ⟨u, r, rfl, h1, h2⟩ := x
    exact RepL.cons hd h2
  | e :: ds, us, i + 1, x => by
    simp only [RepL] at x
    obtain ⟨u, r, rfl, h1, h2⟩ := x
    exact RepL.cons h1 (repL_set hd h2)

theorem repL_erase {N : Addr → Prop} {h : Heap} : ∀ {ds : List D} {us : List Value} {i : Nat}, RepL N h ds us → RepL N h (ds.eraseIdx i) (us.eraseIdx i)
  | [], us, i, x => by simp only [RepL] at x; subst x; simp [RepL]
  | e :: ds, us, 0, x => by
    simp only [RepL] at x
    obtain ⟨u, r, rfl, h1, h2⟩ := x
    exact h2
  | e :: ds, us, i + 1, x => by
    simp only [RepL] at x
    obtain ⟨u, r, rfl, h1, h2⟩ := x
    exact RepL.cons h1 (repL_erase h2)

theorem lm_sound {k : LM} {d : D} {ds : List D} {v : Value} {us : List Value} (g : Good c nm vs env ρ σ P s) (h : lmS k d ds σ Φ) (hd : Rep (nd σ P) s.heap d v) (hr : RepL (nd σ P) s.heap ds us)
    (hQ : ∀ v d σ' s', Φ d σ' → Step noF σ σ' s s' → StoreOk σ' P s'.heap → Rep (nd σ' P) s'.heap d v → Q v s') : wpAny c.M A (call (.builtin k.id) (v :: us)) Q E s := by
  cases k with
  | insert =>
    obtain ⟨i', e, v', u, rfl, hi', hu, h⟩ := two_elim h hr
    obtain ⟨i, t, rfl, h⟩ := intK_elim h hi'
    obtain ⟨a, xs, rfl, hm, h0, h1, hn, h⟩ := h
    obtain rfl : v = .ref a := hd
    obtain ⟨items, ⟨n, ho⟩, hw⟩ := g.st.rep a _ hm
    have el := hw.length
    simp only [Array.length_toList] at el
    have := small_63 hn
    have hf : ¬(!Builtin.List.listFitsIndex i) = true := by
      unfold Builtin.List.listFitsIndex
      have a1 : (-(2 ^ 63 : Int) ≤ i) := by omega
      have a2 : i < 2 ^ 63 := by omega
      simp only [a1, a2, decide_true, Bool.and_self, Bool.not_true, Bool.false_eq_true, not_false_eq_true]
    refine call_meets PySem.F.slot_list_insert ⟨_, ho, rfl⟩ PySem.F.entry_list_insert (PySem.F.args_list_insert_3 _ _ _) (AutoListH.list_insert_list_int_val_1 a items n i t u hf (by have := sizeLine_small; omega)) ⟨ho, ?_⟩
    have hk : (if i < 0 then (i + ((items.size : Nat) : Int)).toNat else min i.toNat items.size) = i.toNat := by rw [if_neg (by omega)]; omega
    have hs := Heap.SameBut.update s.heap a (Obj.mapSeq fun xs => (xs.extract 0 (if i < 0 then (i + ((xs.size : Nat) : Int)).toNat else min i.toNat xs.size)).push u ++ xs.extract (if i < 0 then (i + ((xs.size : Nat) : Int)).toNat else min i.toNat xs.size))
    have hg := get?_update_seq ho (fun xs => (xs.extract 0 (if i < 0 then (i + ((xs.size : Nat) : Int)).toNat else min i.toNat xs.size)).push u ++ xs.extract (if i < 0 then (i + ((xs.size : Nat) : Int)).toNat else min i.toNat xs.size))
    obtain ⟨st, ok⟩ := upd_mut (tk := s.toks) g hm hs ⟨_, hg⟩ (ys := xs.take i.toNat ++ e :: xs.drop i.toNat) (by
      rw [hk]
      have e1 : ((items.extract 0 i.toNat).push u ++ items.extract i.toNat).toList = items.toList.take i.toNat ++ (u :: items.toList.drop i.toNat) := by
        simp [Array.toList_append, List.extract_eq_take_drop]
        exact List.take_of_length_le (by simp)
      rw [e1]
      exact RepL.append (hw.take _) (RepL.cons hu (hw.drop _)))
    exact hQ _ .none _ _ h st ok rep_none
  | pop =>
    obtain ⟨i', v', rfl, hi', h⟩ := one_elim h hr
    obtain ⟨i, t, rfl, h⟩ := intK_elim h hi'
    obtain ⟨a, xs, e, rfl, hm, h0, he, hn, h⟩ := h
    obtain rfl : v = .ref a := hd
    obtain ⟨items, ⟨n, ho⟩, hw⟩ := g.st.rep a _ hm
    have el := hw.length
    simp only [Array.length_toList] at el
    have := small_63 hn
    obtain ⟨y, hy, hry⟩ := hw.get he
    have hlt : i.toNat < items.size := by
      obtain ⟨hlt, _⟩ := List.getElem?_eq_some_iff.mp hy
      simpa using hlt
    have hf : Builtin.List.listFitsIndex i = true := by
      unfold Builtin.List.listFitsIndex
      have a1 : (-(2 ^ 63 : Int) ≤ i) := by omega
      have a2 : i < 2 ^ 63 := by omega
      simp only [a1, a2, decide_true, Bool.and_self]
    have hi : seqIndex? i items.size = some i.toNat := by
      unfold seqIndex?
      rw [if_neg (by omega : ¬ i < 0)]
      have a1 : 0 ≤ i := h0
      have a2 : i < (items.size : Int) := by omega
      simp only [a1, a2, decide_true, Bool.and_self, if_true]
    refine call_meets PySem.F.slot_list_pop ⟨_, ho, rfl⟩ PySem.F.entry_list_pop (PySem.F.args_list_pop_2 _ _) (MeetsSeq.list_pop_at a items n i t i.toNat y hf hi (by simpa using hy) (by have := sizeLine_small; omega)) ⟨ho, ?_⟩
    have hs := Heap.SameBut.update s.heap a (Obj.mapSeq fun xs => xs.eraseIdxIfInBounds i.toNat)
    have hg := get?_update_seq ho (fun xs => xs.eraseIdxIfInBounds i.toNat)
    obtain ⟨st, ok⟩ := upd_mut (tk := s.toks) g hm hs ⟨_, hg⟩ (ys := xs.eraseIdx i.toNat) (by
      rw [Array.eraseIdxIfInBounds, dif_pos hlt, Array.toList_eraseIdx]
      exact repL_erase hw)
    exact hQ _ e _ _ h st ok (Rep.stay (st.stay P) _ _ hry)

theorem lm_method {k : LM} {d : D} {v : Value} {pl : Sem Bool} {Q : Value × List Value → Shared → Prop} (g : Good c nm vs env ρ σ P s) (h : lmOk k d σ) (hd : Rep (nd σ P) s.heap d v)
    (hQ : Q (.builtin k.id, [v]) s) : wpAny c.M A (getMethod v (Str.ofString k.name) pl) Q E s := by
  cases k with
  | insert =>
    obtain ⟨a, xs, rfl, hm⟩ := h
    simp only [Rep] at hd; subst hd
    obtain ⟨us, ⟨n, ho⟩, _⟩ := g.st.rep a _ hm
    exact getMethod_builtin ⟨_, ho, rfl⟩ PySem.F.plainAttrs_list PySem.F.slot_list_insert PySem.F.type_list_insert (fun b e => by cases e; exact ⟨_, ho, rfl⟩) hQ
  | pop =>
    obtain ⟨a, xs, rfl, hm⟩ := h
    simp only [Rep] at hd; subst hd
    obtain ⟨us, ⟨n, ho⟩, _⟩ := g.st.rep a _ hm
    exact getMethod_builtin ⟨_, ho, rfl⟩ PySem.F.plainAttrs_list PySem.F.slot_list_pop PySem.F.type_list_pop (fun b e => by cases e; exact ⟨_, ho, rfl⟩) hQ

end
end Mine

open PySem PyProof.Rows
set_option Elab.async false
namespace Mine

noncomputable def Res.sto : Res → Store
  | .next _ σ => σ
  | .ret _ σ => σ
  | .brk _ σ => σ
  | .cont _ σ => σ

noncomputable def ResOk (c : Cx) (nm : Nat → Str) (vs : List Nat) (env : Env) (P : Addr → Prop) : Res → Flow → Shared → Prop
  | .next ρ σ, f, s => f = .next ∧ Good c nm vs env ρ σ P s
  | .cont ρ σ, f, s => f = .cont ∧ Good c nm vs env ρ σ P s
  | .brk ρ σ, f, s => f = .brk ∧ Good c nm vs env ρ σ P s
  | .ret d σ, f, s => ∃ v, f = .ret v ∧ StoreOk σ P s.heap ∧ Rep (nd σ P) s.heap d v

noncomputable def WPs (c : Cx) (A : Around) (nm : Nat → Str) (vs : List Nat) (env : Env) (ρ : PEnv) (σ : Store) (t : Sem Flow) (Φ : Res → Prop) : Prop :=
  ∀ P s, Good c nm vs env ρ σ P s → ∀ (Q : Flow → Shared → Prop) (E : Value → Shared → Prop),
    (∀ f s' r, Φ r → Step (FrA env) σ r.sto s s' → ResOk c nm vs env P r f s' → Q f s') → wpAny c.M A t Q E s

theorem ns_unique {h : Heap} {a : Addr} {m m' : Str → Option Value} (x : h.Ns a m) (y : h.Ns a m') : m = m' := by
  obtain ⟨o, es, ep, ho, hd, _, hf⟩ := x
  obtain ⟨o', es', ep', ho', hd', _, hf'⟩ := y
  rw [ho] at ho'; cases ho'
  rw [hd] at hd'; cases hd'
  funext n
  rw [← hf, ← hf']

section
variable {c : Cx} {A : Around} {nm : Nat → Str} {vs : List Nat} {env : Env} {ρ : PEnv} {σ : Store} {P : Addr → Prop} {s : Shared} {E : Value → Shared → Prop}

/-- the stay of plain data where only frame objects change -/
theorem Good.stay_fr (g : Good c nm vs env ρ σ P s) {h' : Heap} {L : Addr} (hL : FrA env L) (k : ∀ b o, b ≠ L → s.heap.get? b = some o → h'.get? b = some o) : Stay (nd σ P) (nd σ P) s.heap h' := fun a o items n hN ho hd => by
  refine ⟨k a o (fun e => ?_) ho, hN⟩
  obtain ⟨o', ho', hs⟩ := g.fr_alive hL
  rw [← e, ho] at ho'
  cases ho'
  exact hs items n hd

theorem StoreOk.fr (ok : StoreOk σ P s.heap) {h' : Heap} {L : Addr} (st : Stay (nd σ P) (nd σ P) s.heap h') (hL : ¬ dom σ L) (k : ∀ b o, b ≠ L → s.heap.get? b = some o → h'.get? b = some o) : StoreOk σ P h' := by
  refine ⟨fun a mo e => (ok.rep a mo e).stay st fun b o hb ho => k b o (fun q => hL ?_) ho, ok.apart, ok.free⟩
  subst q
  rcases hb with rfl | ⟨C, fs, rfl⟩
  · exact .inl (by rw [e]; exact Option.some_ne_none _)
  · exact .inr ⟨a, C, fs, e⟩

theorem store_sound {x : Nat} {d : D} {v : Value} {Q : Unit → Shared → Prop} (ok : EnvOk nm vs env) (hx : x ∈ vs) (g : Good c nm vs env ρ σ P s) (hr : Rep (nd σ P) s.heap d v)
    (hQ : ∀ s', Step (FrA env) σ σ s s' → Good c nm vs env (ρ.put x d) σ P s' → Q () s') : wpAny c.M A (storeName env (nm x) v) Q E s := by
  -- one object L of the frame changes
  have main : ∀ (L : Addr) (h' : Heap) (tk : Nat), FrA env L → Heap.SameBut L s.heap h' → (∃ m, h'.Ns env.locals m) → (∀ y ca, env.cells.lookup y = some ca → ∃ v, h'.IsCell ca v) →
      (VarIs env h' (nm x) v) → (∀ y u, y ≠ nm x → VarIs env s.heap y u → VarIs env h' y u) → Q () { s with heap := h', toks := tk } := by
    intro L h' tk hL hs hns hcell hv hoth
    have k : ∀ b o, b ≠ L → s.heap.get? b = some o → h'.get? b = some o := fun b o hb e => hs.extBut b o hb e
    have st := g.stay_fr hL k
    have ndL : ¬ dom σ L := fun hd => (g.own L hd).2 hL
    have al : ∀ a o, s.heap.get? a = some o → ∃ o', h'.get? a = some o' := fun a o e => by
      by_cases hb : a = L
      · subst hb
        rcases hL with rfl | ⟨y, hy⟩
        · obtain ⟨m, o', es, ep, ho', _⟩ := hns; exact ⟨o', ho'⟩
        · obtain ⟨w, o', ho', _⟩ := hcell y a hy; exact ⟨o', ho'⟩
      · exact ⟨o, k a o hb e⟩
    refine hQ _ ⟨⟨h', tk, rfl⟩, fun a o e hd hf => k a o (fun q => hf (q ▸ hL)) e, al, fun a h => .inl h⟩ ⟨fun a o e => ?_, hns, hcell, fun i e hi => ?_, g.st.fr st ndL k, g.own, g.fresh, fun a ha => ?_⟩
    · exact k a o (fun q => by rw [q, g.fresh L hL] at e; cases e) (g.base a o e)
    · rcases PEnv.at_put ρ x i d e hi with ⟨rfl, rfl⟩ | ⟨hne, hi'⟩
      · exact ⟨hx, v, hv, Rep.stay st _ _ hr⟩
      · obtain ⟨hm, u, hu, hru⟩ := g.var i e hi'
        exact ⟨hm, u, hoth _ u (fun q => hne (ok.inj i hm x hx q)) hu, Rep.stay st _ _ hru⟩
    · obtain ⟨o, ho⟩ := g.prot a ha
      exact al a o ho
  obtain ⟨m, hn⟩ := g.ns
  rcases ok.kinds x hx with hl | ⟨hl, ca, hca⟩
  · refine wpAny_storeName_local hl hn (fun h' hn' hs' => ?_) (by rw [ok.kind]; rfl)
    refine main env.locals h' _ (.inl rfl) hs' ⟨_, hn'⟩ (fun y cb hy => ?_) (.inl ⟨hl, _, hn', by simp⟩) (fun y u hy hu => ?_)
    · obtain ⟨w, o, ho, hd⟩ := g.cell y cb hy
      refine ⟨w, o, hs'.extBut cb o (fun q => ?_) ho, hd⟩
      obtain ⟨o', es, ep, ho', hd', _⟩ := hn
      rw [q, ho'] at ho; cases ho; rw [hd'] at hd; cases hd
    · rcases hu with ⟨a, m', hn2, hm⟩ | ⟨a, cb, hc, o, ho, hd⟩
      · have := ns_unique hn hn2
        subst this
        exact .inl ⟨a, _, hn', by rw [if_neg hy]; exact hm⟩
      · refine .inr ⟨a, cb, hc, o, hs'.extBut cb o (fun q => ?_) ho, hd⟩
        obtain ⟨o', es, ep, ho', hd', _⟩ := hn
        rw [q, ho'] at ho; cases ho; rw [hd'] at hd; cases hd
  · obtain ⟨v₀, hv₀⟩ := g.cell (nm x) ca hca
    refine wpAny_storeName_cell ok.kind hl hca hv₀ fun h' hc' hs' => ?_
    have hne : env.locals ≠ ca := fun q => by
      obtain ⟨o', es, ep, ho', hd', _⟩ := hn
      obtain ⟨o, ho, hd⟩ := hv₀
      rw [← q, ho'] at ho; cases ho; rw [hd'] at hd; cases hd
    refine main ca h' _ (.inr ⟨_, hca⟩) hs' ⟨m, hn.sameBut hs' hne⟩ (fun y cb hy => ?_) (.inr ⟨hl, ca, hca, hc'⟩) (fun y u hy hu => ?_)
    · by_cases hcb : cb = ca
      · subst hcb; exact ⟨_, hc'⟩
      · obtain ⟨w, o, ho, hd⟩ := g.cell y cb hy
        exact ⟨w, o, hs'.extBut cb o hcb ho, hd⟩
    · rcases hu with ⟨a, m', hn2, hm⟩ | ⟨a, cb, hc, o, ho, hd⟩
      · exact .inl ⟨a, m', hn2.sameBut hs' hne, hm⟩
      · refine .inr ⟨a, cb, hc, o, hs'.extBut cb o (fun q => ?_) ho, hd⟩
        subst q
        exact hy (name_of_addr ok.apart (mem_of_lookup hc) (mem_of_lookup hca))

/-- an object I that is none of ours changes -/
theorem Good.but (g : Good c nm vs env ρ σ P s) {I : Addr} {oI : Obj} {ws : Array Value} (hI : s.heap.get? I = some oI) (hd : oI.data = .fields ws) (hb : c.b.get? I = none) (hP : ¬ P I) {h' : Heap} {tk : Nat}
    (k : ∀ b o, b ≠ I → s.heap.get? b = some o → h'.get? b = some o) : Good c nm vs env ρ σ P { s with heap := h', toks := tk } := by
  have nf : ∀ a, FrA env a → a ≠ I := fun a ha e => by
    subst e
    rcases ha with rfl | ⟨y, hy⟩
    · obtain ⟨m, o', es, ep, ho', hd', _⟩ := g.ns; rw [hI] at ho'; cases ho'; rw [hd] at hd'; cases hd'
    · obtain ⟨w, o', ho', hd'⟩ := g.cell y _ hy; rw [hI] at ho'; cases ho'; rw [hd] at hd'; cases hd'
  have nI : ¬ dom σ I := fun hx => by
    rcases hx with h1 | ⟨y, C, fs, h1⟩
    · cases e : σ I with
      | none => exact h1 e
      | some mo =>
        have := g.st.rep I mo e
        cases mo with
        | mlist ds => obtain ⟨us, ⟨n, ho⟩, _⟩ := this; rw [hI] at ho; cases ho; cases hd
        | inst C dx fs => obtain ⟨n, es, vs, h2, _⟩ := this; rw [hI] at h2; cases h2; cases hd
        | mdict kvs => obtain ⟨n, es, vs, h2, _⟩ := this; rw [hI] at h2; cases h2; cases hd
    · obtain ⟨n, es, _, _, h2, _⟩ := g.st.rep y _ h1
      rw [hI] at h2; cases h2; cases hd
  have st : Stay (nd σ P) (nd σ P) s.heap h' := fun a o items n hN ho hd' => ⟨k a o (fun e => by subst e; rw [hI] at ho; cases ho; rw [hd] at hd'; cases hd') ho, hN⟩
  refine ⟨fun a o e => k a o (fun q => by subst q; rw [hb] at e; cases e) (g.base a o e), ?_, fun x ca hx => ?_, fun i d e => ?_, g.st.fr st nI k, g.own, g.fresh, fun a ha => ?_⟩
  · obtain ⟨m, hn⟩ := g.ns
    exact ⟨m, hn.at' fun o e => k _ o (nf _ (.inl rfl)) e⟩
  · obtain ⟨v, o, ho, hd'⟩ := g.cell x ca hx
    exact ⟨v, o, k ca o (nf _ (.inr ⟨x, hx⟩)) ho, hd'⟩
  · obtain ⟨hi, v, hv, hr⟩ := g.var i d e
    exact ⟨hi, v, hv.keep (fun a o ha e => k a o (nf a ha) e), Rep.stay st _ _ hr⟩
  · obtain ⟨o, ho⟩ := g.prot a ha
    exact ⟨o, k a o (fun q => hP (q ▸ ha)) ho⟩

theorem Step.but {F : Addr → Prop} {σ σ' : Store} {s₀ s : Shared} (x : Step F σ σ' s₀ s) {I : Addr} (hI : s₀.heap.get? I = none) {h' : Heap} {tk : Nat} (k : ∀ b o, b ≠ I → s.heap.get? b = some o → h'.get? b = some o) :
    Step F σ σ' s₀ { s with heap := h', toks := tk } := by
  refine ⟨?_, fun a o e hd hf => k a o (fun q => by subst q; rw [hI] at e; cases e) (x.keep a o e hd hf), fun a o e => ?_, x.new⟩
  · obtain ⟨h₁, t₁, rfl⟩ := x.same
    exact ⟨h', tk, rfl⟩
  · obtain ⟨o', e'⟩ := x.alive a o e
    exact ⟨o', k a o' (fun q => by subst q; rw [hI] at e; cases e) e'⟩

theorem Good.of_step_fr {ρ' : PEnv} {σ' : Store} {s' : Shared} (g : Good c nm vs env ρ σ P s) (st : Step (FrA env) σ σ' s s') (g' : Good c nm vs env ρ' σ' P s') : Stay (nd σ P) (nd σ' P) s.heap s'.heap := fun a o items n hN ho hd => by
  refine ⟨st.keep a o ho hN.1 (fun hf => ?_), fun h => (st.new a h).elim hN.1 (fun e => by rw [e] at ho; cases ho), hN.2⟩
  obtain ⟨o', ho', hs⟩ := g.fr_alive hf
  rw [ho] at ho'; cases ho'
  exact hs items n hd
end

section
variable {c : Cx} {A : Around} {nm : Nat → Str} {vs : List Nat} {env : Env} {P : Addr → Prop}

theorem for_sound {I : Addr} {ds : List D} {ok : Store → (Addr → Prop) → Heap → Prop} {It : Nat → Heap → Prop} (T : Turns c A I ds ok It) {d : D} {v : Value} {keep : Store → Prop}
    (hok : ∀ (σ : Store) (s : Shared), Rep (nd σ P) s.heap d v → StoreOk σ P s.heap → keep σ → ok σ P s.heap) (eo : EnvOk nm vs env) {x : Nat} {xp : Pos} (hx : x ∈ vs) {body : List Stmt}
    {step : D → PEnv → Store → (Res → Prop) → Prop} (hstep : ∀ e ρ σ Ψ, step e ρ σ Ψ → WPs c A nm vs env (ρ.put x e) σ (execs body env) Ψ)
    {ρ₀ : PEnv} {σ₀ : Store} {s₀ s : Shared} (g₀ : Good c nm vs env ρ₀ σ₀ P s₀) (hI : s₀.heap.get? I = none) (st : Step (FrA env) σ₀ σ₀ s₀ s) (g : Good c nm vs env ρ₀ σ₀ P s) (it : It 0 s.heap) (hd : Rep (nd σ₀ P) s.heap d v) (hk : keep σ₀)
    {Φ : Res → Prop} (hfor : forS step keep ds ρ₀ σ₀ Φ) {R : Result → Shared → Prop} (hR : ∀ f s' r, Φ r → Step (FrA env) σ₀ r.sto s₀ s' → ResOk c nm vs env P r f s' → R (.ok f) s') :
    codeAny c.M A (.forLoop (.Name (nm x) xp) (.ref I) body [] env) R s := by
  have hbI : c.b.get? I = none := by
    cases e : c.b.get? I with
    | none => rfl
    | some o => rw [g₀.base I o e] at hI; cases hI
  have hPI : ¬ P I := fun hp => by obtain ⟨o, ho⟩ := g₀.prot I hp; rw [hI] at ho; cases ho
  refine codeAny_forLoop
    (fun n s' => ∃ k ρ σ, k ≤ ds.length ∧ n = ds.length - k ∧ It k s'.heap ∧ Good c nm vs env ρ σ P s' ∧ Step (FrA env) σ₀ σ s₀ s' ∧ Rep (nd σ P) s'.heap d v ∧ keep σ ∧ forS step keep (ds.drop k) ρ σ Φ)
    ?_ ds.length ⟨0, ρ₀, σ₀, Nat.zero_le _, rfl, it, g, st, hd, hk, hfor⟩
  rintro n s' ⟨k, ρ, σ, hkl, rfl, it', g', st', hd', hk', hf'⟩
  obtain ⟨oI, ws, hoI, hdI⟩ := T.alive k _ it'
  by_cases hlt : k < ds.length
  · have hget : ds[k]? = some ds[k] := List.getElem?_eq_getElem hlt
    have hdrop : ds.drop k = ds[k] :: ds.drop (k + 1) := (List.drop_eq_getElem_cons hlt)
    rw [hdrop] at hf'
    simp only [forS] at hf'
    refine T.item k _ s' σ P _ _ hget it' (hok σ s' hd' g'.st hk') fun u h₁ tk₁ it₁ hs₁ hr₁ => ?_
    have kb : ∀ b o, b ≠ I → s'.heap.get? b = some o → h₁.get? b = some o := fun b o hb e => hs₁.extBut b o hb e
    have g₁ : Good c nm vs env ρ σ P { s' with heap := h₁, toks := tk₁ } := g'.but hoI hdI hbI hPI kb
    have st₁ : Step (FrA env) σ₀ σ s₀ { s' with heap := h₁, toks := tk₁ } := st'.but hI kb
    have stay₁ : Stay (nd σ P) (nd σ P) s'.heap h₁ := fun a o items n hN ho hd2 => ⟨kb a o (fun e => by subst e; rw [hoI] at ho; cases ho; rw [hdI] at hd2; cases hd2) ho, hN⟩
    refine wpAny_assign_Name (store_sound eo hx g₁ (Rep.stay stay₁ _ _ hr₁) fun s₂ st₂ g₂ => ?_)
    have stay₂ := g₁.of_step_fr st₂ g₂
    have it₂ : It (k + 1) s₂.heap := T.mv _ _ _ it₁ fun o e => by
      obtain ⟨oI', ws', hoI', hdI'⟩ := T.alive (k + 1) _ it₁
      refine st₂.keep I o e (fun hdm => ?_) (fun hf => ?_)
      · obtain ⟨o2, ho2⟩ := g₁.st.alive hdm
        rcases hdm with h1 | ⟨y, C, fs, h1⟩
        · cases e2 : σ I with
          | none => exact h1 e2
          | some mo =>
            have := g₁.st.rep I mo e2
            cases mo with
            | mlist ds => obtain ⟨us, ⟨n3, ho3⟩, _⟩ := this; rw [hoI'] at ho3; cases ho3; cases hdI'
            | inst C dx fs => obtain ⟨n3, es, vs, h2, _⟩ := this; rw [hoI'] at h2; cases h2; cases hdI'
            | mdict kvs => obtain ⟨n3, es, vs, h2, _⟩ := this; rw [hoI'] at h2; cases h2; cases hdI'
        · obtain ⟨n3, es, _, _, h2, _⟩ := g₁.st.rep y _ h1
          rw [hoI'] at h2; cases h2; cases hdI'
      · rcases hf with rfl | ⟨y, hy⟩
        · obtain ⟨m, o', es, ep, ho', hd', _⟩ := g₁.ns; rw [hoI'] at ho'; cases ho'; rw [hdI'] at hd'; cases hd'
        · obtain ⟨w, o', ho', hd'⟩ := g₁.cell y _ hy; rw [hoI'] at ho'; cases ho'; rw [hdI'] at hd'; cases hd'
    refine hstep _ _ _ _ hf' P s₂ g₂ _ _ fun f s₃ r hr st₃ ro => ?_
    have st03 : Step (FrA env) σ₀ r.sto s₀ s₃ := (st₁.trans st₂).trans st₃
    have it₃ : It (k + 1) s₃.heap := T.mv _ _ _ it₂ fun o e => by
      obtain ⟨oI', ws', hoI', hdI'⟩ := T.alive (k + 1) _ it₂
      refine st₃.keep I o e (fun hdm => ?_) (fun hf => ?_)
      · rcases hdm with h1 | ⟨y, C, fs, h1⟩
        · cases e2 : σ I with
          | none => exact h1 e2
          | some mo =>
            have := g₂.st.rep I mo e2
            cases mo with
            | mlist ds => obtain ⟨us, ⟨n3, ho3⟩, _⟩ := this; rw [hoI'] at ho3; cases ho3; cases hdI'
            | inst C dx fs => obtain ⟨n3, es, vs, h2, _⟩ := this; rw [hoI'] at h2; cases h2; cases hdI'
            | mdict kvs => obtain ⟨n3, es, vs, h2, _⟩ := this; rw [hoI'] at h2; cases h2; cases hdI'
        · obtain ⟨n3, es, _, _, h2, _⟩ := g₂.st.rep y _ h1
          rw [hoI'] at h2; cases h2; cases hdI'
      · rcases hf with rfl | ⟨y, hy⟩
        · obtain ⟨m, o', es, ep, ho', hd', _⟩ := g₂.ns; rw [hoI'] at ho'; cases ho'; rw [hdI'] at hd'; cases hd'
        · obtain ⟨w, o', ho', hd'⟩ := g₂.cell y _ hy; rw [hoI'] at ho'; cases ho'; rw [hdI'] at hd'; cases hd'
    have hd₂ : Rep (nd σ P) s₂.heap d v := Rep.stay stay₂ _ _ (Rep.stay stay₁ _ _ hd')
    cases r with
    | next ρ' σ' =>
      obtain ⟨rfl, g₃⟩ := ro
      exact ⟨ds.length - (k + 1), by omega, k + 1, ρ', σ', hlt, rfl, it₃, g₃, st03, Rep.stay (g₂.of_step_fr st₃ g₃) _ _ hd₂, hr.1, hr.2⟩
    | cont ρ' σ' =>
      obtain ⟨rfl, g₃⟩ := ro
      exact ⟨ds.length - (k + 1), by omega, k + 1, ρ', σ', hlt, rfl, it₃, g₃, st03, Rep.stay (g₂.of_step_fr st₃ g₃) _ _ hd₂, hr.1, hr.2⟩
    | brk ρ' σ' =>
      obtain ⟨rfl, g₃⟩ := ro
      exact hR .next s₃ (.next ρ' σ') hr st03 ⟨rfl, g₃⟩
    | ret d' σ' =>
      obtain ⟨u', rfl, h1, h2⟩ := ro
      exact hR (.ret u') s₃ (.ret d' σ') hr st03 ⟨u', rfl, h1, h2⟩
  · have hke : k = ds.length := by omega
    subst hke
    rw [List.drop_length] at hf'
    simp only [forS] at hf'
    refine T.done s' σ P _ _ it' (hok σ s' hd' g'.st hk') fun h₁ tk₁ he₁ => wpAny_execs_nil ?_
    have kb : ∀ b o, b ≠ I → s'.heap.get? b = some o → h₁.get? b = some o := fun b o hb e => he₁ b o hb e
    exact hR .next _ (.next ρ σ) hf' (st'.but hI kb) ⟨rfl, g'.but hoI hdI hbI hPI kb⟩
end
end Mine

open PySem PyProof.Rows
set_option Elab.async false
namespace Mine

section
variable {c : Cx} {A : Around} {nm : Nat → Str} {vs : List Nat} {env : Env} {ρ : PEnv} {σ : Store} {P : Addr → Prop} {s : Shared} {E : Value → Shared → Prop}

/-- one object I changes that is no top object, no frame object, no store object, and no plain data may lie there -/
theorem Good.change (g : Good c nm vs env ρ σ P s) {I : Addr} (hb : c.b.get? I = none) (hf : ¬ FrA env I) (hdm : ¬ dom σ I) (hN : ∀ o items n, nd σ P I → s.heap.get? I = some o → o.data ≠ .seq items n) {h' : Heap} {tk : Nat}
    (hal : P I → ∃ o, h'.get? I = some o) (k : ∀ b o, b ≠ I → s.heap.get? b = some o → h'.get? b = some o) :
    Good c nm vs env ρ σ P { s with heap := h', toks := tk } ∧ Stay (nd σ P) (nd σ P) s.heap h' := by
  have st : Stay (nd σ P) (nd σ P) s.heap h' := fun a o items n hn ho hd' => ⟨k a o (fun e => by subst e; exact hN o items n hn ho hd') ho, hn⟩
  refine ⟨⟨fun a o e => k a o (fun q => by subst q; rw [hb] at e; cases e) (g.base a o e), ?_, fun x ca hx => ?_, fun i d e => ?_, g.st.fr st hdm k, g.own, g.fresh, fun a ha => ?_⟩, st⟩
  · obtain ⟨m, hn⟩ := g.ns
    exact ⟨m, hn.at' fun o e => k _ o (fun q => hf (.inl q.symm)) e⟩
  · obtain ⟨v, o, ho, hd'⟩ := g.cell x ca hx
    exact ⟨v, o, k ca o (fun q => hf (.inr ⟨x, by rw [← q]; exact hx⟩)) ho, hd'⟩
  · obtain ⟨hi, v, hv, hr⟩ := g.var i d e
    exact ⟨hi, v, hv.keep (fun a o ha e => k a o (fun q => hf (q ▸ ha)) e), Rep.stay st _ _ hr⟩
  · by_cases h : a = I
    · subst h; exact hal ha
    · obtain ⟨o, ho⟩ := g.prot a ha
      exact ⟨o, k a o h ho⟩

theorem not_dom_of_fields (ok : StoreOk σ P s.heap) {I : Addr} {oI : Obj} {ws : Array Value} (hI : s.heap.get? I = some oI) (hd : oI.data = .fields ws) : ¬ dom σ I := fun hx => by
  rcases hx with h1 | ⟨y, C, fs, h1⟩
  · cases e : σ I with
    | none => exact h1 e
    | some mo =>
      have := ok.rep I mo e
      cases mo with
      | mlist ds => obtain ⟨us, ⟨n, ho⟩, _⟩ := this; rw [hI] at ho; cases ho; cases hd
      | inst C dx fs => obtain ⟨n, es, vs, h2, _⟩ := this; rw [hI] at h2; cases h2; cases hd
      | mdict kvs => obtain ⟨n, es, vs, h2, _⟩ := this; rw [hI] at h2; cases h2; cases hd
  · obtain ⟨n, es, _, _, h2, _⟩ := ok.rep y _ h1
    rw [hI] at h2; cases h2; cases hd

theorem StoreOk.weak {P' : Addr → Prop} {h : Heap} (ok : StoreOk σ P' h) (hp : ∀ a, P a → P' a) : StoreOk σ P h :=
  ⟨fun a mo e => MRep.stay (fun b o items n hN ho _ => ⟨ho, hN.1, fun q => hN.2 (hp b q)⟩) (fun _ _ _ ho => ho) (ok.rep a mo e), ok.apart, fun a ha q => ok.free a ha (hp a q)⟩

/-- a protected list becomes a store object -/
theorem adopt {h : Heap} {P' : Addr → Prop} {a : Addr} {ds : List D} {us : Array Value} (ok : StoreOk σ P' h) (hp : ∀ b, P' b ↔ P b ∨ b = a) (hPa : ¬ P a) (hn : h.PlainList a us) (hr : RepL (nd σ P') h ds us.toList) :
    freshIn σ a ∧ StoreOk (σ.set a (.mlist ds)) P h := by
  have nda : ¬ dom σ a := fun hd => ok.free a hd ((hp a).mpr (.inr rfl))
  have hf : freshIn σ a := ⟨by
    cases e : σ a with
    | none => rfl
    | some m => exact absurd (Or.inl (by rw [e]; exact Option.some_ne_none m)) nda, fun x C fs e => nda (.inr ⟨x, C, fs, e⟩)⟩
  have st : Stay (nd σ P') (nd (σ.set a (.mlist ds)) P) h h := fun b o items n hN ho _ => ⟨ho, fun hd => (dom_set hd).elim hN.1 (fun e => hN.2 ((hp b).mpr (.inr e))), fun q => hN.2 ((hp b).mpr (.inl q))⟩
  refine ⟨hf, ⟨fun b mo e => ?_, fun x C dx fs e => ?_, fun b hb => ?_⟩⟩
  · unfold Store.set at e
    by_cases hb : b = a
    · rw [if_pos hb] at e
      cases e
      subst hb
      exact ⟨us, hn, RepL.stay st _ _ hr⟩
    · rw [if_neg hb] at e
      exact MRep.stay st (fun b' o _ ho => ho) (ok.rep b mo e)
  · unfold Store.set at e ⊢
    by_cases hx : x = a
    · rw [if_pos hx] at e; cases e
    · rw [if_neg hx] at e
      obtain ⟨h1, h2⟩ := ok.apart x C dx fs e
      refine ⟨?_, fun y C' fs' e' => ?_⟩
      · rw [if_neg (fun q : dx = a => hf.2 x C fs (q ▸ e))]; exact h1
      · by_cases hy : y = a
        · rw [if_pos hy] at e'; cases e'
        · rw [if_neg hy] at e'; exact h2 y C' fs' e'
  · rcases dom_set hb with h | h
    · exact fun q => ok.free b h ((hp b).mpr (.inl q))
    · subst h; exact hPa

/-! ### the block of a comprehension -/
noncomputable def clGo (env : Env) : List (Str × NameKind) → List (Str × Addr) → List (Str × Addr)
  | [], acc => acc
  | (n, k) :: r, acc => if k == .free then clGo env r ((n, (env.cells.lookup n).getD 0) :: acc) else clGo env r acc
noncomputable def clOf (env : Env) (sc : Scope) : List (Str × Addr) := clGo env sc.names []

theorem closureFor_eq {env : Env} {sc : Scope} (h : ∀ x ∈ sc.names, x.2 = .free → ∃ ca, env.cells.lookup x.1 = some ca) : closureFor sc env = pure (clOf env sc) := by
  unfold closureFor clOf
  suffices H : ∀ (l : List (Str × NameKind)) (acc : List (Str × Addr)), (∀ x ∈ l, x.2 = .free → ∃ ca, env.cells.lookup x.1 = some ca) →
      (forIn l acc fun x (cs : List (Str × Addr)) => (match x with
        | (name, kind) => if (kind == .free) = true then do let y ← cellOf env name; pure (ForInStep.yield ((name, y) :: cs)) else pure (ForInStep.yield cs) : Sem (ForInStep (List (Str × Addr))))) = pure (clGo env l acc) by
    have := H sc.names [] h
    simp only [bind_pure]
    exact this
  intro l
  induction l with
  | nil => intro acc _; rfl
  | cons x r ih =>
    intro acc hl
    obtain ⟨n, k⟩ := x
    have hr : ∀ y ∈ r, y.2 = .free → ∃ ca, env.cells.lookup y.1 = some ca := fun y hy => hl y (List.mem_cons_of_mem _ hy)
    rw [List.forIn_cons]
    by_cases hk : (k == NameKind.free) = true
    · obtain ⟨ca, hca⟩ := hl (n, k) List.mem_cons_self (by simpa using hk)
      simp only [hk, if_true, clGo, cellOf]
      simp only at hca
      rw [hca]
      simp only [pure_bind, Option.getD_some]
      exact ih _ hr
    · have hk' : (k == NameKind.free) = false := by simpa using hk
      simp only [hk', Bool.false_eq_true, if_false, clGo, pure_bind]
      exact ih _ hr

theorem clGo_mem {env : Env} : ∀ (l : List (Str × NameKind)) (acc : List (Str × Addr)) (n : Str) (a : Addr), (n, a) ∈ clGo env l acc → (n, a) ∈ acc ∨ ((n, NameKind.free) ∈ l ∧ a = (env.cells.lookup n).getD 0)
  | [], acc, n, a, h => .inl h
  | (m, k) :: r, acc, n, a, h => by
    unfold clGo at h
    split at h
    · rename_i hk
      have hk' : k = .free := by simpa using hk
      rcases clGo_mem r _ n a h with h1 | ⟨h1, h2⟩
      · rcases List.mem_cons.mp h1 with e | h1
        · cases e; subst hk'; exact .inr ⟨List.mem_cons_self, rfl⟩
        · exact .inl h1
      · exact .inr ⟨List.mem_cons_of_mem _ h1, h2⟩
    · rcases clGo_mem r _ n a h with h1 | ⟨h1, h2⟩
      · exact .inl h1
      · exact .inr ⟨List.mem_cons_of_mem _ h1, h2⟩
theorem clGo_has {env : Env} : ∀ (l : List (Str × NameKind)) (acc : List (Str × Addr)) (n : Str), ((n, NameKind.free) ∈ l ∨ ∃ a, (n, a) ∈ acc) → ∃ a, (n, a) ∈ clGo env l acc
  | [], acc, n, h => h.elim (fun h => by cases h) id
  | (m, k) :: r, acc, n, h => by
    unfold clGo
    split
    · rename_i hk
      refine clGo_has r _ n ?_
      rcases h with h | ⟨a, h⟩
      · rcases List.mem_cons.mp h with e | h
        · cases e; exact .inr ⟨_, List.mem_cons_self⟩
        · exact .inl h
      · exact .inr ⟨a, List.mem_cons_of_mem _ h⟩
    · rename_i hk
      refine clGo_has r _ n ?_
      rcases h with h | ⟨a, h⟩
      · rcases List.mem_cons.mp h with e | h
        · cases e; exact absurd (by rfl) hk
        · exact .inl h
      · exact .inr ⟨a, h⟩
theorem lookup_of_mem {α : Type} : ∀ {l : List (Str × α)} {n : Str} {a : α}, (n, a) ∈ l → ∃ b, l.lookup n = some b
  | (m, c) :: r, n, a, h => by
    rw [List.lookup_cons]
    cases hb : n == m with
    | true => exact ⟨c, rfl⟩
    | false =>
      rcases List.mem_cons.mp h with e | h
      · cases e; simp at hb
      · exact lookup_of_mem h
theorem cl_lookup {env : Env} {sc : Scope} {n : Str} {ca : Addr} (hn : (n, NameKind.free) ∈ sc.names) (hc : env.cells.lookup n = some ca) : (clOf env sc).lookup n = some ca := by
  obtain ⟨a, ha⟩ := clGo_has (env := env) sc.names [] n (.inl hn)
  obtain ⟨b, hb⟩ := lookup_of_mem ha
  have := mem_of_lookup hb
  rcases clGo_mem _ _ _ _ this with h | ⟨_, h⟩
  · cases h
  · unfold clOf; rw [hb, h, hc]; rfl
theorem cl_from {env : Env} {sc : Scope} (hfr : ∀ x ∈ sc.names, x.2 = .free → ∃ ca, env.cells.lookup x.1 = some ca) {n : Str} {ca : Addr} (h : (clOf env sc).lookup n = some ca) : env.cells.lookup n = some ca := by
  rcases clGo_mem _ _ _ _ (mem_of_lookup h) with h | ⟨h1, h2⟩
  · cases h
  · obtain ⟨cb, hcb⟩ := hfr _ h1 rfl
    simp only at hcb
    rw [hcb] at h2 ⊢
    rw [h2]; rfl
theorem cl_apart {env : Env} {sc : Scope} (hfr : ∀ x ∈ sc.names, x.2 = .free → ∃ ca, env.cells.lookup x.1 = some ca) (ha : env.cells.Pairwise fun x y => x.2 ≠ y.2) (hnd : (sc.names.map (·.1)).Nodup) : (clOf env sc).Pairwise fun x y => x.2 ≠ y.2 := by
  suffices H : ∀ (l : List (Str × NameKind)) (acc : List (Str × Addr)), (∀ x ∈ l, x.2 = .free → ∃ ca, env.cells.lookup x.1 = some ca) → (l.map (·.1)).Nodup → (∀ n a, (n, a) ∈ acc → env.cells.lookup n = some a ∧ n ∉ l.map (·.1)) →
      (acc.Pairwise fun x y => x.2 ≠ y.2) → (clGo env l acc).Pairwise fun x y => x.2 ≠ y.2 from H _ _ hfr hnd (fun _ _ h => by cases h) .nil
  intro l
  induction l with
  | nil => intro acc _ _ _ h; exact h
  | cons x r ih =>
    intro acc h1 h2 h3 h4
    obtain ⟨m, k⟩ := x
    have h2' := List.nodup_cons.mp h2
    unfold clGo
    split
    · rename_i hk
      obtain ⟨ca, hca⟩ := h1 (m, k) List.mem_cons_self (by simpa using hk)
      simp only at hca
      rw [hca]
      refine ih _ (fun y hy => h1 y (List.mem_cons_of_mem _ hy)) h2'.2 (fun n a hm => ?_) (List.pairwise_cons.mpr ⟨fun y hy e => ?_, h4⟩)
      · rcases List.mem_cons.mp hm with e | hm
        · cases e; exact ⟨by rw [hca]; rfl, h2'.1⟩
        · exact ⟨(h3 n a hm).1, fun q => (h3 n a hm).2 (List.mem_cons_of_mem _ q)⟩
      · obtain ⟨yn, ya⟩ := y
        have h5 := h3 yn ya hy
        have e' : ca = ya := e
        have := name_of_addr ha (mem_of_lookup hca) (e' ▸ mem_of_lookup h5.1)
        exact h5.2 (by rw [← this]; exact List.mem_cons_self)
    · exact ih _ (fun y hy => h1 y (List.mem_cons_of_mem _ hy)) h2'.2 (fun n a hm => ⟨(h3 n a hm).1, fun q => (h3 n a hm).2 (List.mem_cons_of_mem _ q)⟩) h4

theorem lookup_nodup {α : Type} : ∀ {l : List (Str × α)} {n : Str} {a : α}, (l.map (·.1)).Nodup → (n, a) ∈ l → l.lookup n = some a
  | (m, c) :: r, n, a, hnd, h => by
    rw [List.lookup_cons]
    have hnd' := List.nodup_cons.mp hnd
    rcases List.mem_cons.mp h with e | h1
    · cases e; simp
    · cases hb : n == m with
      | true =>
        have e : n = m := by simpa using hb
        have h2 : n ∈ r.map (·.1) := List.mem_map_of_mem (f := fun x : Str × α => x.1) h1
        rw [e] at h2
        exact absurd h2 hnd'.1
      | false => exact lookup_nodup hnd'.2 h1

/-- the relabelled scope: a free name of a cell is a cell -/
theorem relabel_names {env : Env} {sc : Scope} : ((relabel sc env).names.map (·.1)) = sc.names.map (·.1) := by
  unfold relabel
  simp only [List.map_map]
  congr 1
  funext x
  obtain ⟨n, k⟩ := x
  simp only [Function.comp]
  split <;> rfl
end
end Mine

open PySem PyProof.Rows
set_option Elab.async false
set_option linter.unusedVariables false
namespace Mine

theorem relabel_mem {env : Env} {sc : Scope} {n : Str} {k : NameKind} (h : (n, k) ∈ sc.names) :
    (n, if (k == .free && env.scope.kind == .function && env.kindOf n == some .cell) then NameKind.cell else k) ∈ (relabel sc env).names := by
  unfold relabel
  refine List.mem_map.mpr ⟨(n, k), h, ?_⟩
  simp only
  split <;> rfl
theorem relabel_lookup {env : Env} {sc : Scope} {n : Str} {k : NameKind} (hnd : (sc.names.map (·.1)).Nodup) (h : (n, k) ∈ sc.names) :
    (relabel sc env).names.lookup n = some (if (k == .free && env.scope.kind == .function && env.kindOf n == some .cell) then NameKind.cell else k) :=
  lookup_nodup (by rw [relabel_names]; exact hnd) (relabel_mem h)

/-- what a comprehension's scope must be -/
structure CompOk (nm : Nat → Str) (vs : List Nat) (env : Env) (sc : Scope) (x : Nat) (fr : List Nat) : Prop where
  kind : sc.kind = .function
  nodup : (sc.names.map (·.1)).Nodup
  targ : (nm x, NameKind.local) ∈ sc.names
  frees : ∀ i ∈ fr, i ∈ vs ∧ (nm i, NameKind.free) ∈ sc.names ∧ env.kindOf (nm i) = some .cell
  all : ∀ y ∈ sc.names, y.2 = .free → ∃ i ∈ fr, nm i = y.1
  nocell : ∀ y ∈ sc.names, y.2 ≠ .cell
  dbg : (nm x == ("__debug__" : Str)) = false

section
variable {c : Cx} {A : Around} {nm : Nat → Str} {vs : List Nat} {env : Env} {sc : Scope} {x : Nat} {fr : List Nat}

theorem CompOk.cellsOf (co : CompOk nm vs env sc x fr) (eo : EnvOk nm vs env) : ∀ y ∈ sc.names, y.2 = .free → ∃ ca, env.cells.lookup y.1 = some ca := fun y hy hf => by
  obtain ⟨i, hi, e⟩ := co.all y hy hf
  obtain ⟨hv, _, hk⟩ := co.frees i hi
  rcases eo.kinds i hv with h | ⟨_, ca, hca⟩
  · rw [hk] at h; cases h
  · exact ⟨ca, e ▸ hca⟩

theorem CompOk.envOk (co : CompOk nm vs env sc x fr) (eo : EnvOk nm vs env) (C : Addr) : EnvOk nm (x :: fr) (compEnvC sc (clOf env sc) C env) where
  kind := co.kind
  globals := eo.globals
  builtins := eo.builtins
  inj := fun i hi j hj e => by
    have key : ∀ k ∈ fr, nm x ≠ nm k := fun k hk q => by
      have h1 := lookup_nodup co.nodup co.targ
      have h2 := lookup_nodup co.nodup (co.frees k hk).2.1
      rw [q, h2] at h1; cases h1
    rcases List.mem_cons.mp hi with e1 | h1 <;> rcases List.mem_cons.mp hj with e2 | h2
    · rw [e1, e2]
    · exact absurd (e1 ▸ e) (key j h2)
    · exact absurd (e2 ▸ e.symm) (key i h1)
    · exact eo.inj i (co.frees i h1).1 j (co.frees j h2).1 e
  kinds := fun i hi => by
    rcases List.mem_cons.mp hi with rfl | hi
    · left
      show (relabel sc env).names.lookup (nm i) = some .local
      rw [relabel_lookup co.nodup co.targ]; rfl
    · right
      obtain ⟨hv, hm, hk⟩ := co.frees i hi
      refine ⟨?_, ?_⟩
      · show (relabel sc env).names.lookup (nm i) = some .cell
        rw [relabel_lookup co.nodup hm, eo.kind, hk]; rfl
      · obtain ⟨ca, hca⟩ := co.cellsOf eo _ hm rfl
        exact ⟨ca, cl_lookup hm hca⟩
  dbg := fun i hi => by
    rcases List.mem_cons.mp hi with rfl | hi
    · exact co.dbg
    · exact eo.dbg i (co.frees i hi).1
  apart := cl_apart (co.cellsOf eo) eo.apart co.nodup

theorem onlyGo_at : ∀ (l : List Nat) (k : Nat) (ρ : PEnv) (i : Nat) (d : D), (onlyGo l k ρ).at i = some d → (k + i) ∈ l ∧ ρ.at i = some d
  | l, k, [], i, d, h => by simp [onlyGo, PEnv.at] at h
  | l, k, e :: r, 0, d, h => by
    simp only [onlyGo, PEnv.at] at h
    split at h
    · rename_i hc
      exact ⟨by simpa using hc, by simpa [PEnv.at] using h⟩
    · cases h
  | l, k, e :: r, i + 1, d, h => by
    simp only [onlyGo, PEnv.at] at h
    obtain ⟨h1, h2⟩ := onlyGo_at l (k + 1) r i d h
    exact ⟨by rw [show k + (i + 1) = k + 1 + i by omega]; exact h1, by simpa [PEnv.at] using h2⟩
theorem only_at {ρ : PEnv} {l : List Nat} {i : Nat} {d : D} (h : (ρ.only l).at i = some d) : i ∈ l ∧ ρ.at i = some d := by
  have := onlyGo_at l 0 ρ i d h
  rw [Nat.zero_add] at this
  exact this

/-- the state seen from the comprehension's block -/
theorem Good.block {ρ : PEnv} {σ : Store} {P : Addr → Prop} {s : Shared} (g : Good c nm vs env ρ σ P s) (co : CompOk nm vs env sc x fr) (eo : EnvOk nm vs env) {C : Addr} (hC : ∃ m, s.heap.Ns C m) (hb : c.b.get? C = none) (hd : ¬ dom σ C) :
    Good c nm (x :: fr) (compEnvC sc (clOf env sc) C env) (ρ.only fr) σ P s := by
  refine ⟨g.base, hC, fun y ca hy => g.cell y ca (cl_from (co.cellsOf eo) hy), fun i d e => ?_, g.st, fun a ha => ⟨(g.own a ha).1, fun hf => ?_⟩, fun a hf => ?_, g.prot⟩
  · obtain ⟨hi, hρ⟩ := only_at e
    obtain ⟨_, v, hv, hr⟩ := g.var i d hρ
    obtain ⟨_, hm, hk⟩ := co.frees i hi
    refine ⟨List.mem_cons_of_mem _ hi, v, .inr ?_, hr⟩
    rcases hv with ⟨hk', _⟩ | ⟨_, ca, hca, hcell⟩
    · rw [hk] at hk'; cases hk'
    · refine ⟨?_, ca, cl_lookup hm hca, hcell⟩
      show (relabel sc env).names.lookup (nm i) = some .cell
      rw [relabel_lookup co.nodup hm, eo.kind, hk]; rfl
  · rcases hf with rfl | ⟨y, hy⟩
    · exact hd ha
    · exact (g.own a ha).2 (.inr ⟨y, cl_from (co.cellsOf eo) hy⟩)
  · rcases hf with rfl | ⟨y, hy⟩
    · exact hb
    · exact g.fresh a (.inr ⟨y, cl_from (co.cellsOf eo) hy⟩)
end

/-! ### soundness of a value and a test -/
noncomputable def SndV (c : Cx) (A : Around) (nm : Nat → Str) (vs : List Nat) (env : Env) (x : VT) (e : Expr) : Prop := ∀ ρ σ Φ, x.v ρ σ Φ → WPv c A nm vs env ρ σ (eval e env) Φ
noncomputable def SndT (c : Cx) (A : Around) (nm : Nat → Str) (vs : List Nat) (env : Env) (x : VT) (e : Expr) : Prop := ∀ ρ σ Φ, x.t ρ σ Φ → WPb c A nm vs env ρ σ (isTrue e env (eval e env)) Φ
inductive SndL (c : Cx) (A : Around) (nm : Nat → Str) (vs : List Nat) (env : Env) : List VT → List Expr → Prop
  | nil : SndL c A nm vs env [] []
  | cons {x e xs es} : SndV c A nm vs env x e → SndT c A nm vs env x e → SndL c A nm vs env xs es → SndL c A nm vs env (x :: xs) (e :: es)

section
variable {c : Cx} {A : Around} {nm : Nat → Str} {vs : List Nat} {env : Env}

theorem ifs_false (es : List Expr) : (forIn es false fun e r => if r = true then do let ok ← isTrue e env (eval e env); pure (ForInStep.yield ok) else pure (ForInStep.yield r) : Sem Bool) = pure false := by
  induction es with
  | nil => rfl
  | cons e r ih => rw [List.forIn_cons]; simp only [Bool.false_eq_true, if_false, pure_bind]; exact ih

theorem ifs_sound {xs : List VT} {es : List Expr} (h : SndL c A nm vs env xs es) : ∀ ρ σ Φ, ifsT xs ρ σ Φ →
    WPb c A nm vs env ρ σ (forIn es true fun e r => if r = true then do let ok ← isTrue e env (eval e env); pure (ForInStep.yield ok) else pure (ForInStep.yield r)) Φ := by
  induction h with
  | nil => intro ρ σ Φ h P s g Q E hQ; rw [List.forIn_nil]; exact wpAny_pure (hQ true σ s h (Step.refl _ _ _) g.st)
  | cons hv ht _ ih =>
    intro ρ σ Φ h P s g Q E hQ
    rw [List.forIn_cons]
    simp only [ifsT] at h
    simp only [if_true]
    refine wpAny_bind (wpAny_bind (ht ρ σ _ h P s g _ _ fun b σ₁ s₁ hb st₁ ok₁ => wpAny_pure ?_))
    show wpAny c.M A (forIn _ b _) Q E s₁
    cases b with
    | true => exact ih ρ σ₁ Φ (hb.1 rfl) P s₁ (g.next st₁ ok₁) Q E fun b' σ₂ s₂ h₂ st₂ ok₂ => hQ b' σ₂ s₂ h₂ (st₁.trans st₂) ok₂
    | false => rw [ifs_false]; exact wpAny_pure (hQ false σ₁ s₁ (hb.2 rfl) st₁ ok₁)

/-- a store of a local name of the block -/
theorem store_local {ρ : PEnv} {σ : Store} {P : Addr → Prop} {s : Shared} {E : Value → Shared → Prop} {x : Nat} {d : D} {v : Value} {Q : Unit → Shared → Prop} (eo : EnvOk nm vs env) (hx : x ∈ vs) (hl : env.kindOf (nm x) = some .local) (g : Good c nm vs env ρ σ P s) (hr : Rep (nd σ P) s.heap d v)
    (hQ : ∀ h' tk, Heap.SameBut env.locals s.heap h' → Good c nm vs env (ρ.put x d) σ P { s with heap := h', toks := tk } → Stay (nd σ P) (nd σ P) s.heap h' → Q () { s with heap := h', toks := tk }) : wpAny c.M A (storeName env (nm x) v) Q E s := by
  obtain ⟨m, hn⟩ := g.ns
  refine wpAny_storeName_local hl hn (fun h' hn' hs' => ?_) (by rw [eo.kind]; rfl)
  have hL : FrA env env.locals := .inl rfl
  have k : ∀ b o, b ≠ env.locals → s.heap.get? b = some o → h'.get? b = some o := fun b o hb e => hs'.extBut b o hb e
  have st := g.stay_fr hL k
  have ndL : ¬ dom σ env.locals := fun hd => (g.own _ hd).2 hL
  have cb : ∀ (y : Str) (cb : Addr), env.cells.lookup y = some cb → cb ≠ env.locals := fun y cb hy q => by
    obtain ⟨w, o, ho, hd⟩ := g.cell y cb hy
    obtain ⟨o', es, ep, ho', hd', _⟩ := hn
    rw [q, ho'] at ho; cases ho; rw [hd'] at hd; cases hd
  refine hQ h' _ hs' ⟨fun a o e => k a o (fun q => by rw [q, g.fresh _ hL] at e; cases e) (g.base a o e), ⟨_, hn'⟩, fun y ca hy => ?_, fun i e hi => ?_, g.st.fr st ndL k, g.own, g.fresh, fun a ha => ?_⟩ st
  · obtain ⟨w, o, ho, hd⟩ := g.cell y ca hy
    exact ⟨w, o, k ca o (cb y ca hy) ho, hd⟩
  · rcases PEnv.at_put ρ x i d e hi with ⟨rfl, rfl⟩ | ⟨hne, hi'⟩
    · exact ⟨hx, v, .inl ⟨hl, _, hn', by simp⟩, Rep.stay st _ _ hr⟩
    · obtain ⟨hm, u, hu, hru⟩ := g.var i e hi'
      refine ⟨hm, u, ?_, Rep.stay st _ _ hru⟩
      rcases hu with ⟨a, m', hn2, hm2⟩ | ⟨a, ca, hc, o, ho, hd⟩
      · have := ns_unique hn hn2
        subst this
        exact .inl ⟨a, _, hn', by rw [if_neg (fun q => hne (eo.inj i hm x hx q))]; exact hm2⟩
      · exact .inr ⟨a, ca, hc, o, k ca o (cb _ ca hc) ho, hd⟩
  · obtain ⟨o, ho⟩ := g.prot a ha
    by_cases hb : a = env.locals
    · subst hb; obtain ⟨o', es, ep, ho', _⟩ := hn'; exact ⟨o', ho'⟩
    · exact ⟨o, k a o hb ho⟩
end
end Mine

open PySem PyProof.Rows
set_option Elab.async false
set_option linter.unusedVariables false
namespace Mine
section
variable {c : Cx} {A : Around} {nm : Nat → Str} {vs : List Nat} {env : Env} {sc : Scope} {x : Nat} {fr : List Nat}

/-- the loop of a comprehension; s₀: ahead of the iterator -/
theorem put_other : ∀ (r : PEnv) (a b : Nat) (z : D), b ≠ a → (r.put a z).at b = r.at b
  | [], _, _, _, _ => rfl
  | _ :: _, 0, 0, _, h => absurd rfl h
  | _ :: _, 0, _ + 1, _, _ => rfl
  | _ :: _, _ + 1, 0, _, _ => rfl
  | _ :: r, a + 1, b + 1, z, h => put_other r a b z fun q => h (congrArg (· + 1) q)
/-- the block without the target -/
theorem Good.untarget {env' : Env} {ρ : PEnv} {z : D} {σ' : Store} {P' : Addr → Prop} {s'' : Shared} (co : CompOk nm vs env sc x fr) (ga : Good c nm (x :: fr) env' ((ρ.only fr).put x z) σ' P' s'') : Good c nm (x :: fr) env' (ρ.only fr) σ' P' s'' :=
  ⟨ga.base, ga.ns, ga.cell, fun i e hi => by
    obtain ⟨hif, hρ⟩ := only_at hi
    have hne : i ≠ x := fun q => by
      subst q
      have h1 := lookup_nodup co.nodup co.targ
      have h2 := lookup_nodup co.nodup (co.frees i hif).2.1
      rw [h2] at h1; cases h1
    refine ga.var i e ?_
    rw [put_other _ _ _ _ hne]; exact hi, ga.st, ga.own, ga.fresh, ga.prot⟩
theorem comp_turns {P' : Addr → Prop} {I : Addr} {ds : List D} {ok : Store → (Addr → Prop) → Heap → Prop} {It : Nat → Heap → Prop} (T : Turns c A I ds ok It) {d : D} {v : Value} {keep : Store → Prop} {ec : Env} {C Dl : Addr} {s₀ s : Shared} {σ₀ : Store} {ρ : PEnv} {vt : VT} {vts : List VT} {elt iter : Expr} {ifs : List Expr} {xp pos : Pos}
    (hok : ∀ (σ : Store) (s : Shared), Rep (nd σ P') s.heap d v → StoreOk σ P' s.heap → keep σ → ok σ P' s.heap)
    (co : CompOk nm vs env sc x fr) (eoc : EnvOk nm (x :: fr) ec) (hkx : ec.kindOf (nm x) = some .local) (hLC : ec.locals = C) (helt : SndV c A nm (x :: fr) ec vt elt) (hifs : SndL c A nm (x :: fr) ec vts ifs)
    (bI : c.b.get? I = none) (fI : ¬ FrA ec I) (pI : ¬ P' I) (bD : c.b.get? Dl = none) (fD : ¬ FrA ec Dl) (pD : P' Dl) (hI : s₀.heap.get? I = none) (hC : s₀.heap.get? C = none) (hD : s₀.heap.get? Dl = none) (hDC : Dl ≠ C) (hDI : Dl ≠ I) (hCI : C ≠ I)
    (it : It 0 s.heap) (hacc : s.heap.PlainList Dl #[]) (gb : Good c nm (x :: fr) ec (ρ.only fr) σ₀ P' s) (st0 : Step noF σ₀ σ₀ s₀ s) (hd : Rep (nd σ₀ P') s.heap d v) (hk : keep σ₀) (hsz : ds.length ≤ small) {Ψ : List D → Store → Prop} {stp : D → Store → (Option D → Store → Prop) → Prop}
    (hstp : stp = fun e σ' K => ifsT vts ((ρ.only fr).put x e) σ' fun b σ'' => (b = true → vt.v ((ρ.only fr).put x e) σ'' fun r σ₃ => K (some r) σ₃) ∧ (b = false → K Option.none σ'')) (hcomp : compS stp keep ds σ₀ [] Ψ) {R : Result → Shared → Prop}
    (hR : ∀ s' us out σ', Ψ out σ' → ¬ dom σ' C → (∃ m, s'.heap.Ns C m) → s'.heap.PlainList Dl us → RepL (nd σ' P') s'.heap out us.toList → StoreOk σ' P' s'.heap → Step noF σ₀ σ' s₀ s' → R (.ok .next) s') :
    codeAny c.M A (.compLoop (.ListComp elt [⟨.Name (nm x) xp, iter, ifs, 0⟩] sc pos) 0 (.ref I) (.ref Dl) ec) R s := by
  refine codeAny_compLoop_tests
    (fun n s' => ∃ k σ acc us, k ≤ ds.length ∧ n = ds.length - k ∧ It k s'.heap ∧ Good c nm (x :: fr) ec (ρ.only fr) σ P' s' ∧ Step noF σ₀ σ s₀ s' ∧
      Rep (nd σ P') s'.heap d v ∧ keep σ ∧ s'.heap.PlainList Dl us ∧ RepL (nd σ P') s'.heap acc us.toList ∧ acc.length ≤ k ∧
      compS stp keep (ds.drop k) σ acc Ψ)
    ?_ ds.length ⟨0, σ₀, [], #[], Nat.zero_le _, rfl, it, gb, st0, hd, hk, hacc, .nil, Nat.le_refl _, hcomp⟩
  rintro n s' ⟨k, σ, acc, us, hkl, rfl, it', g', st', hd', hk', hl', hr', hal', hc'⟩
  obtain ⟨oI, ws, hoI, hdI⟩ := T.alive k _ it'
  by_cases hlt : k < ds.length
  · have hget : ds[k]? = some ds[k] := List.getElem?_eq_getElem hlt
    have hdrop : ds.drop k = ds[k] :: ds.drop (k + 1) := List.drop_eq_getElem_cons hlt
    rw [hdrop] at hc'
    subst hstp
    simp only [compS] at hc'
    refine T.item k _ s' σ _ _ _ hget it' (hok σ s' hd' g'.st hk') fun u h₁ tk₁ it₁ hs₁ hr₁ => ?_
    have kb : ∀ b o, b ≠ I → s'.heap.get? b = some o → h₁.get? b = some o := fun b o hb e => hs₁.extBut b o hb e
    obtain ⟨g₁, stay₁⟩ := g'.change bI fI (not_dom_of_fields g'.st hoI hdI) (fun o items n _ ho => by rw [hoI] at ho; cases ho; rw [hdI]; exact fun e => by cases e) (tk := tk₁)
      (fun q => (pI q).elim) kb
    have st₁ : Step noF σ₀ σ s₀ { s' with heap := h₁, toks := tk₁ } := st'.but hI kb
    have hl₁ : h₁.PlainList Dl us := hl'.at fun o e => kb Dl o hDI e
    refine wpAny_assign_Name (store_local eoc List.mem_cons_self hkx g₁ (Rep.stay stay₁ _ _ hr₁) fun h₂ tk₂ hs₂ g₂ stay₂ => ?_)
    rw [hLC] at hs₂
    have kc : ∀ b o, b ≠ C → h₁.get? b = some o → h₂.get? b = some o := fun b o hb e => hs₂.extBut b o hb e
    have st₂ : Step noF σ₀ σ s₀ { s' with heap := h₂, toks := tk₂ } := st₁.but hC kc
    have it₂ : It (k + 1) h₂ := T.mv _ _ _ it₁ fun o e => kc I o hCI.symm e
    have hl₂ : h₂.PlainList Dl us := hl₁.at fun o e => kc Dl o hDC e
    have hr₂ : RepL (nd σ P') h₂ acc us.toList := RepL.stay stay₂ _ _ (RepL.stay stay₁ _ _ hr')
    have hd₂ : Rep (nd σ P') h₂ d v := Rep.stay stay₂ _ _ (Rep.stay stay₁ _ _ hd')
    -- what stays for the objects of the loop under a step of the block
    have keepI : ∀ (σa σb : Store) (sa sb : Shared) (ρa : PEnv) (j : Nat), Good c nm (x :: fr) ec ρa σa P' sa → Step noF σa σb sa sb → It j sa.heap → It j sb.heap := fun σa σb sa sb ρa j ga st i => by
      obtain ⟨o, w, ho, hd⟩ := T.alive j _ i
      exact T.mv _ _ _ i fun o' e => st.keep I o' e (not_dom_of_fields ga.st ho hd) (fun h => h)
    have keepD : ∀ (σa σb : Store) (sa sb : Shared) (ρa : PEnv) (ws : Array Value), Good c nm (x :: fr) ec ρa σa P' sa → Step noF σa σb sa sb → sa.heap.PlainList Dl ws → sb.heap.PlainList Dl ws := fun σa σb sa sb ρa ws ga st hl => by
      exact hl.at fun o ho => st.keep Dl o ho (fun hd => ga.st.free Dl hd pD) (fun h => h)
    refine ifs_sound hifs _ _ _ hc' _ _ g₂ _ _ fun b σ₃ s₃ hb st₃ ok₃ => ?_
    have g₃ := g₂.next st₃ ok₃
    have it₃ := keepI _ _ _ _ _ _ g₂ st₃ it₂
    have hl₃ := keepD _ _ _ _ _ _ g₂ st₃ hl₂
    have hr₃ := RepL.stay (st₃.stay _) _ _ hr₂
    have hd₃ := Rep.stay (st₃.stay _) _ _ hd₂
    have st03 := st₂.trans st₃
    cases b with
    | false =>
      simp only [Bool.false_eq_true, if_false]
      have := hb.2 rfl
      simp only [Option.toList_none, List.append_nil] at this
      exact ⟨ds.length - (k + 1), by omega, k + 1, σ₃, acc, us, hlt, rfl, it₃, Good.untarget co g₃, st03, hd₃, this.1, hl₃, hr₃, by omega, this.2⟩
    | true =>
      simp only [if_true]
      refine helt _ _ _ (hb.1 rfl) _ _ g₃ _ _ fun y dy σ₄ s₄ hK st₄ ok₄ ry => ?_
      have g₄ := g₃.next st₄ ok₄
      have it₄ := keepI _ _ _ _ _ _ g₃ st₄ it₃
      have hl₄ := keepD _ _ _ _ _ _ g₃ st₄ hl₃
      have hr₄ := RepL.stay (st₄.stay _) _ _ hr₃
      have hd₄ := Rep.stay (st₄.stay _) _ _ hd₃
      have st04 := st03.trans st₄
      have el := hr₄.length
      simp only [Array.length_toList] at el
      refine wpAny_list_append_plain hl₄ (fun h₅ hl₅ hs₅ => ?_) (by have := sizeLine_small; omega)
      have kd : ∀ b o, b ≠ Dl → s₄.heap.get? b = some o → h₅.get? b = some o := fun b o hb e => hs₅.extBut b o hb e
      obtain ⟨g₅, stay₅⟩ := g₄.change bD fD (fun hd => g₄.st.free Dl hd pD) (fun o items n hn => absurd pD hn.2) (tk := s₄.toks)
        (fun _ => let ⟨_, ho⟩ := hl₅; ⟨_, ho⟩) kd
      have st05 : Step noF σ₀ σ₄ s₀ { s₄ with heap := h₅ } := st04.but hD kd
      obtain ⟨oI', ws', hoI', hdI'⟩ := T.alive (k + 1) _ it₄
      refine ⟨ds.length - (k + 1), by omega, k + 1, σ₄, acc ++ [dy], us.push y, hlt, rfl, T.mv _ _ _ it₄ fun o e => kd I o hDI.symm e, Good.untarget co g₅, st05, Rep.stay stay₅ _ _ hd₄, hK.1, hl₅, ?_, by rw [List.length_append, List.length_singleton]; omega, by simpa using hK.2⟩
      have := RepL.append (RepL.stay stay₅ _ _ hr₄) (RepL.one (Rep.stay stay₅ _ _ ry))
      simpa using this
  · have hke : k = ds.length := by omega
    subst hke
    rw [List.drop_length] at hc'
    simp only [compS] at hc'
    refine T.done s' σ _ _ _ it' (hok σ s' hd' g'.st hk') fun h₁ tk₁ he₁ => ?_
    have kb : ∀ b o, b ≠ I → s'.heap.get? b = some o → h₁.get? b = some o := fun b o hb e => he₁ b o hb e
    obtain ⟨g₁, stay₁⟩ := g'.change bI fI (not_dom_of_fields g'.st hoI hdI) (fun o items n _ ho => by rw [hoI] at ho; cases ho; rw [hdI]; exact fun e => by cases e) (tk := tk₁)
      (fun q => (pI q).elim) kb
    exact hR _ us acc σ hc' (fun hx => (g₁.own C hx).2 (.inl hLC.symm)) (by have := g₁.ns; rwa [hLC] at this) (hl'.at fun o e => kb Dl o hDI e) (RepL.stay stay₁ _ _ hr') g₁.st (st'.but hI kb)
theorem comp_loop {P : Addr → Prop} {I : Addr} {ds : List D} {ok : Store → (Addr → Prop) → Heap → Prop} {It : Nat → Heap → Prop} (T : Turns c A I ds ok It) {d : D} {v : Value} {keep : Store → Prop}
    (hok : ∀ (σ : Store) (P : Addr → Prop) (s : Shared), Rep (nd σ P) s.heap d v → StoreOk σ P s.heap → keep σ → ok σ P s.heap)
    (co : CompOk nm vs env sc x fr) (eo : EnvOk nm vs env) {C Dl : Addr} {xp pos : Pos} {iter elt : Expr} {ifs : List Expr} {vt : VT} {vts : List VT}
    (helt : SndV c A nm (x :: fr) (compEnvC sc (clOf env sc) C env) vt elt) (hifs : SndL c A nm (x :: fr) (compEnvC sc (clOf env sc) C env) vts ifs)
    {ρ : PEnv} {σ₀ : Store} {s₀ s : Shared} (g₀ : Good c nm vs env ρ σ₀ P s₀) (hI : s₀.heap.get? I = none) (hC : s₀.heap.get? C = none) (hD : s₀.heap.get? Dl = none) (hDC : Dl ≠ C) (hDI : Dl ≠ I) (hCI : C ≠ I)
    (hk0 : ∀ b o, s₀.heap.get? b = some o → s.heap.get? b = some o) (hsame : ∃ h' tk, s = { s₀ with heap := h', toks := tk }) (it : It 0 s.heap) (hnsC : ∃ m, s.heap.Ns C m) (hacc : s.heap.PlainList Dl #[])
    (hd : Rep (nd σ₀ P) s₀.heap d v) (hk : keep σ₀) (hsz : ds.length ≤ small) {Ψ : List D → Store → Prop}
    (hcomp : compS (fun e σ' K => ifsT vts ((ρ.only fr).put x e) σ' fun b σ'' => (b = true → vt.v ((ρ.only fr).put x e) σ'' fun r σ₃ => K (some r) σ₃) ∧ (b = false → K Option.none σ'')) keep ds σ₀ [] Ψ)
    {R : Result → Shared → Prop}
    (hR : ∀ s' us out σ', Ψ out σ' → ¬ dom σ' C → (∃ m, s'.heap.Ns C m) → s'.heap.PlainList Dl us → RepL (nd σ' fun a => P a ∨ a = Dl) s'.heap out us.toList → StoreOk σ' (fun a => P a ∨ a = Dl) s'.heap → Step noF σ₀ σ' s₀ s' → R (.ok .next) s') :
    codeAny c.M A (.compLoop (.ListComp elt [⟨.Name (nm x) xp, iter, ifs, 0⟩] sc pos) 0 (.ref I) (.ref Dl) (compEnvC sc (clOf env sc) C env)) R s := by
  have nob : ∀ a, s₀.heap.get? a = none → c.b.get? a = none := fun a ha => by
    cases e : c.b.get? a with
    | none => rfl
    | some o => rw [g₀.base a o e] at ha; cases ha
  have nod : ∀ a, s₀.heap.get? a = none → ¬ dom σ₀ a := fun a ha hx => by obtain ⟨o, ho⟩ := g₀.st.alive hx; rw [ha] at ho; cases ho
  have nop : ∀ a, s₀.heap.get? a = none → ¬ P a := fun a ha hx => by obtain ⟨o, ho⟩ := g₀.prot a hx; rw [ha] at ho; cases ho
  have nof : ∀ a, s₀.heap.get? a = none → ¬ FrA env a := fun a ha hx => by obtain ⟨o, ho, _⟩ := g₀.fr_alive hx; rw [ha] at ho; cases ho
  have nofc : ∀ a, s₀.heap.get? a = none → a ≠ C → ¬ FrA (compEnvC sc (clOf env sc) C env) a := fun a ha hne hx => by
    rcases hx with rfl | ⟨y, hy⟩
    · exact hne rfl
    · exact nof a ha (.inr ⟨y, cl_from (co.cellsOf eo) hy⟩)
  have eoc := co.envOk eo C
  -- the state at the start, with the accumulator protected
  have gs : Good c nm vs env ρ σ₀ P s := by
    refine g₀.next (Step.of_keeps ?_) (g₀.st.keeps hk0)
    obtain ⟨h', tk, rfl⟩ := hsame
    exact ⟨h', tk, rfl, hk0⟩
  have stay0 : Stay (nd σ₀ P) (nd σ₀ fun a => P a ∨ a = Dl) s₀.heap s.heap := fun a o items n hN ho _ => ⟨hk0 a o ho, hN.1, fun q => q.elim hN.2 (fun e => by subst e; rw [hD] at ho; cases ho)⟩
  have gp : Good c nm vs env ρ σ₀ (fun a => P a ∨ a = Dl) s := by
    refine ⟨gs.base, gs.ns, gs.cell, fun i e hi => ?_, ⟨fun a mo e => ?_, gs.st.apart, fun a ha q => q.elim (gs.st.free a ha) (fun e => nod _ hD (e ▸ ha))⟩, gs.own, gs.fresh, fun a ha => ?_⟩
    · obtain ⟨h1, u, hu, hru⟩ := g₀.var i e hi
      refine ⟨h1, u, hu.keep fun a o _ ho => hk0 a o ho, Rep.stay stay0 _ _ hru⟩
    · exact MRep.stay stay0 (fun b o _ ho => hk0 b o ho) (g₀.st.rep a mo e)
    · rcases ha with h | rfl
      · exact gs.prot a h
      · obtain ⟨n, ho⟩ := hacc; exact ⟨_, ho⟩
  have gb : Good c nm (x :: fr) (compEnvC sc (clOf env sc) C env) (ρ.only fr) σ₀ (fun a => P a ∨ a = Dl) s := gp.block co eo hnsC (nob C hC) (nod C hC)
  have st0 : Step noF σ₀ σ₀ s₀ s := Step.of_keeps (by obtain ⟨h', tk, rfl⟩ := hsame; exact ⟨h', tk, rfl, hk0⟩)
  exact comp_turns T (fun σ s => hok σ _ s) co eoc (by
      show (relabel sc env).names.lookup (nm x) = some .local
      rw [relabel_lookup co.nodup co.targ]; rfl) rfl helt hifs (nob I hI) (nofc I hI hCI.symm) (fun q => q.elim (nop I hI) fun e => hDI e.symm) (nob Dl hD) (nofc Dl hD hDC) (.inr rfl) hI hC hD hDC hDI hCI it hacc gb st0 (Rep.stay stay0 _ _ hd) hk hsz rfl hcomp hR
end
end Mine

open PySem PyProof.Rows
set_option Elab.async false
set_option linter.unusedVariables false
namespace Mine

theorem ne_of_lt_succ {b n m : Nat} (h : b < n) (e : m = n + 1) : b ≠ m := by omega

/-- what pyIter does at a value that stands for the items ds -/
noncomputable def ItV (c : Cx) (A : Around) (d : D) (ds : List D) (σ : Store) (P : Addr → Prop) (xv : Value) (s : Shared) : Prop :=
  ∃ v, Rep (nd σ P) s.heap d v ∧ keepS d ds σ ∧ ∀ (Q : Value → Shared → Prop) (E : Value → Shared → Prop),
    (∀ I ok It s₂, s.heap.get? I = none → Keeps s s₂ → Turns c A I ds ok It → It 0 s₂.heap → (∀ (σ' : Store) (P' : Addr → Prop) (s' : Shared), Rep (nd σ' P') s'.heap d v → StoreOk σ' P' s'.heap → keepS d ds σ' → ok σ' P' s'.heap) → Q (.ref I) s₂) → wpAny c.M A (pyIter xv) Q E s

noncomputable def SndI (c : Cx) (A : Around) (nm : Nat → Str) (vs : List Nat) (env : Env) (tr : PEnv → Store → (D → List D → Store → Prop) → Prop) (e : Expr) : Prop :=
  ∀ ρ σ Φ, tr ρ σ Φ → ∀ P s, Good c nm vs env ρ σ P s → ∀ (Q : Value → Shared → Prop) (E : Value → Shared → Prop),
    (∀ xv d ds σ' s', Φ d ds σ' → Step noF σ σ' s s' → StoreOk σ' P s'.heap → ItV c A d ds σ' P xv s' → Q xv s') → wpAny c.M A (eval e env) Q E s

section
variable {c : Cx} {A : Around} {nm : Nat → Str} {vs : List Nat} {env : Env}

theorem itv_seq {σ : Store} {P : Addr → Prop} {s : Shared} {d : D} {ds : List D} {v : Value} (hh : A.handled = none) (ok : StoreOk σ P s.heap) (hr : Rep (nd σ P) s.heap d v) (e : asL σ d = some ds) : ItV c A d ds σ P v s := by
  cases d <;> simp only [asL] at e <;> try cases e
  · -- tuple
    have hr' := hr
    simp only [Rep] at hr
    obtain ⟨a, us, rfl, _, hl, hw⟩ := hr
    refine ⟨_, hr', trivial, fun Q E hQ => wpAny_pyIter_tuple hl (hQ s.heap.objs.size _ _ _ (get?_size_none _) (keeps_push' s _) (Turns.tuple hh _ a ds) ⟨_, Heap.get?_push_size _ rfl, rfl, rfl⟩ fun σ' P' s' hr2 ok2 _ => ?_)⟩
    simp only [Rep] at hr2
    obtain ⟨a', us', q, _, hl', hw'⟩ := hr2
    cases q
    exact ⟨us', by rw [if_neg (by decide)]; exact hl', hw'⟩
  · -- list
    have hr' := hr
    simp only [Rep] at hr
    obtain ⟨a, us, rfl, _, hl, hw⟩ := hr
    refine ⟨_, hr', trivial, fun Q E hQ => wpAny_pyIter_list hl (hQ s.heap.objs.size _ _ _ (get?_size_none _) (keeps_push' s _) (Turns.list hh _ a ds) ⟨_, Heap.get?_push_size _ rfl, rfl, rfl⟩ fun σ' P' s' hr2 ok2 _ => ?_)⟩
    simp only [Rep] at hr2
    obtain ⟨a', us', q, _, hl', hw'⟩ := hr2
    cases q
    exact ⟨us', by rw [if_pos rfl]; exact hl', hw'⟩
  · rename_i a
    have hr' := hr
    simp only [Rep] at hr
    subst hr
    cases h : σ a with
    | none => rw [h] at e; cases e
    | some mo =>
      rw [h] at e
      cases mo with
      | mlist xs =>
        cases e
        obtain ⟨us, hl, hw⟩ := ok.rep a _ h
        refine ⟨_, hr', h, fun Q E hQ => wpAny_pyIter_list hl.isList (hQ s.heap.objs.size _ _ _ (get?_size_none _) (keeps_push' s _) (Turns.list hh _ a ds) ⟨_, Heap.get?_push_size _ rfl, rfl, rfl⟩ fun σ' P' s' hr2 ok2 hk2 => ?_)⟩
        obtain ⟨us', hl', hw'⟩ := ok2.rep a _ hk2
        exact ⟨us', by rw [if_pos rfl]; exact hl'.isList, hw'⟩
      | inst C dx fs => cases e
      | mdict kvs => cases e

theorem itv_range {σ : Store} {P : Addr → Prop} {s : Shared} {r : Addr} {n : Int} {t u w : Tok} (hh : A.handled = none) (hr : IsRange s.heap r 0 n 1 t u w) (h1 : n ≤ small) (h2 : -small ≤ n) : ItV c A .none (rangeD n) σ P (.ref r) s := by
  unfold small at h1 h2
  refine ⟨.none, rep_none, trivial, fun Q E hQ => wpAny_pyIter_range hr (small_one (by omega) (by omega) (by omega) (by omega)) (hQ s.heap.objs.size _ _ _ (get?_size_none _) (keeps_push' s _) (Turns.range hh _ n) ?_ fun _ _ _ _ _ _ => trivial)⟩
  show IsRangeIter _ _ ((0 : Nat) : Int) ((n.toNat : Int) - ((0 : Nat) : Int)) 1
  have e : Builtin.Range.rangeSize 0 n 1 = (n.toNat : Int) - ((0 : Nat) : Int) := by rw [rangeSize_one]; split <;> omega
  rw [← e]
  exact Heap.get?_push_size _ rfl

/-- the block of a comprehension behind the iterator -/
theorem comp_block {P : Addr → Prop} {sc : Scope} {x : Nat} {fr : List Nat} {I : Addr} {ds : List D} {ok : Store → (Addr → Prop) → Heap → Prop} {It : Nat → Heap → Prop} (T : Turns c A I ds ok It) {d : D} {v : Value} {keep : Store → Prop}
    (hok : ∀ (σ : Store) (P : Addr → Prop) (s : Shared), Rep (nd σ P) s.heap d v → StoreOk σ P s.heap → keep σ → ok σ P s.heap)
    (co : CompOk nm vs env sc x fr) (eo : EnvOk nm vs env) {xp pos : Pos} {iter elt : Expr} {ifs : List Expr} {vt : VT} {vts : List VT}
    (helt : ∀ C, SndV c A nm (x :: fr) (compEnvC sc (clOf env sc) C env) vt elt) (hifs : ∀ C, SndL c A nm (x :: fr) (compEnvC sc (clOf env sc) C env) vts ifs)
    {ρ : PEnv} {σ₀ : Store} {s₀ s : Shared} (g₀ : Good c nm vs env ρ σ₀ P s₀) (hI : s₀.heap.get? I = none) (kp : Keeps s₀ s) (it : It 0 s.heap) (hd : Rep (nd σ₀ P) s₀.heap d v) (hk : keep σ₀) (hsz : ds.length ≤ small) {Ψ : List D → Store → Prop}
    (hcomp : compS (fun e σ' K => ifsT vts ((ρ.only fr).put x e) σ' fun b σ'' => (b = true → vt.v ((ρ.only fr).put x e) σ'' fun r σ₃ => K (some r) σ₃) ∧ (b = false → K Option.none σ'')) keep ds σ₀ [] Ψ)
    {RR : Value → Addr → Result → Shared → Prop} {E : Value → Shared → Prop}
    (hR : ∀ Dl C s' us out σ', s₀.heap.get? Dl = none → s₀.heap.get? C = none → Dl ≠ C → Ψ out σ' → ¬ dom σ' C → (∃ m, s'.heap.Ns C m) → s'.heap.PlainList Dl us → RepL (nd σ' fun a => P a ∨ a = Dl) s'.heap out us.toList → StoreOk σ' (fun a => P a ∨ a = Dl) s'.heap → Step noF σ₀ σ' s₀ s' →
      RR (.ref Dl) C (.ok .next) s') :
    wpAny c.M A (newList []) (fun acc s₃ => wpAny c.M A (newFunctionEnv sc env.globals (clOf env sc) [] env.qual Option.none .none (some env)) (fun cenv s₄ =>
      codeAny c.M A (.compStart (.ListComp elt [⟨.Name (nm x) xp, iter, ifs, 0⟩] sc pos) 0 (.ref I) acc { cenv with scope := relabel sc env }) (RR acc cenv.locals) s₄) E s₃) E s := by
  obtain ⟨h₂, tk₂, rfl, hk2⟩ := kp
  obtain ⟨oI, ws, hoI, _⟩ := T.alive 0 _ it
  refine wpAny_newObj_type (wpAny_newFunctionEnv co.nocell (by intro y hy; simp at hy) (fun h₁ hns₁ hsb₁ => ?_) co.kind)
  dsimp only at hns₁ hsb₁ hoI it ⊢
  generalize hH2 : h₂.push { cls := .type "list", dict := Option.none, data := .seq ([] : List Value).toArray } = H2 at hns₁ hsb₁ ⊢
  have hC : H2.objs.size = h₂.objs.size + 1 := by rw [← hH2, Heap.size_push]
  have hDC : h₂.objs.size ≠ H2.objs.size := by omega
  have old : ∀ b o, h₂.get? b = some o → h₁.get? b = some o := fun b o e => hsb₁.extBut b o (ne_of_lt_succ (Heap.lt_size e) hC) (Heap.get?_push_of_some _ (hH2 ▸ Heap.get?_push_of_some _ e))
  have none0 : ∀ a, h₂.objs.size ≤ a → s₀.heap.get? a = none := fun a ha => by
    cases e : s₀.heap.get? a with
    | none => rfl
    | some o' => exact absurd (Heap.lt_size (hk2 _ _ e)) (Nat.not_lt.mpr ha)
  have hacc : h₁.PlainList h₂.objs.size #[] := ⟨0, hsb₁.extBut _ _ hDC (Heap.get?_push_of_some _ (hH2 ▸ Heap.get?_push_size _ rfl))⟩
  have hIlt := Heap.lt_size hoI
  have it₁ : It 0 h₁ := T.mv _ _ _ it fun o e => old I o e
  have loop : ∀ s₃ : Shared, s₃ = { s₀ with heap := h₁, toks := tk₂ + ([] : List (Str × Value)).length } →
      codeAny c.M A (.compLoop (.ListComp elt [⟨.Name (nm x) xp, iter, ifs, 0⟩] sc pos) 0 (.ref I) (.ref h₂.objs.size) (compEnvC sc (clOf env sc) H2.objs.size env)) (RR (.ref h₂.objs.size) H2.objs.size) s₃ := by
    rintro s₃ rfl
    exact comp_loop T hok co eo (helt _) (hifs _) g₀ hI (none0 _ (by omega)) (none0 _ (Nat.le_refl _)) hDC (Nat.ne_of_gt hIlt) (fun q => ne_of_lt_succ hIlt hC q.symm) (fun b o e => old b o (hk2 b o e)) ⟨_, _, rfl⟩ it₁ ⟨_, hns₁⟩ hacc hd hk hsz hcomp
      fun s' us out σ' h1 h2 h3 h4 h5 h6 h7 => hR _ _ s' us out σ' (none0 _ (Nat.le_refl _)) (none0 _ (by omega)) hDC h1 h2 h3 h4 h5 h6 h7
  refine codeAny_compStart_list (loop _ rfl) ?_
  have g1 : StoreOk σ₀ P h₁ := g₀.st.keeps fun b o e => old b o (hk2 b o e)
  refine T.self 0 _ σ₀ P _ _ it₁ (hok σ₀ P { s₀ with heap := h₁, toks := tk₂ + ([] : List (Str × Value)).length } (hd.keeps fun b o e => old b o (hk2 b o e)) g1 hk) ?_
  exact loop _ rfl
end
end Mine

open PySem PyProof.Rows
set_option Elab.async false
set_option linter.unusedVariables false
namespace Mine
section
variable {c : Cx} {A : Around} {nm : Nat → Str} {vs : List Nat} {env : Env}

theorem RepL.weakP {σ : Store} {P P' : Addr → Prop} {h : Heap} {ds : List D} {us : List Value} (x : RepL (nd σ P') h ds us) (hp : ∀ a, P a → P' a) : RepL (nd σ P) h ds us :=
  RepL.stay (fun b o items n hN ho _ => ⟨ho, hN.1, fun q => hN.2 (hp b q)⟩) _ _ x

/-- the list of a comprehension at its end -/
theorem comp_fin {σ₁ σ' : Store} {P : Addr → Prop} {s₁ s' : Shared} {Dl : Addr} {us : Array Value} {out : List D} {m : Bool} {Φ : D → Store → Prop} (hΦ : mkS m out σ' Φ) (hD : s₁.heap.get? Dl = none) (hPD : ¬ P Dl) (hl : s'.heap.PlainList Dl us)
    (hr : RepL (nd σ' fun a => P a ∨ a = Dl) s'.heap out us.toList) (ok : StoreOk σ' (fun a => P a ∨ a = Dl) s'.heap) (st : Step noF σ₁ σ' s₁ s') :
    ∃ d σ'', Φ d σ'' ∧ Step noF σ₁ σ'' s₁ s' ∧ StoreOk σ'' P s'.heap ∧ Rep (nd σ'' P) s'.heap d (.ref Dl) ∧ ∀ a, dom σ'' a → dom σ' a ∨ a = Dl := by
  unfold mkS at hΦ
  cases m with
  | false =>
    simp only [Bool.false_eq_true, if_false] at hΦ
    refine ⟨.list out, σ', hΦ, st, ok.weak fun a h => .inl h, ?_, fun a h => .inl h⟩
    simp only [Rep]
    exact ⟨Dl, us, rfl, ⟨fun hd => ok.free Dl hd (.inr rfl), hPD⟩, hl.isList, hr.weakP fun a h => .inl h⟩
  | true =>
    simp only [if_true] at hΦ
    obtain ⟨hf, ok2⟩ := adopt ok (fun b => Iff.rfl) hPD hl hr
    refine ⟨.obj Dl, _, hΦ Dl hf, ⟨st.same, st.keep, st.alive, fun a ha => ?_⟩, ok2, by simp [Rep], fun a ha => dom_set ha⟩
    rcases dom_set ha with h | rfl
    · exact st.new a h
    · exact .inr hD

theorem comp_pre {σ : Store} {P : Addr → Prop} {s : Shared} {C : Addr} {h' : Heap} (hn : ∃ m, s.heap.Ns C m) (hs : Heap.SameBut C s.heap h') : Stay (nd σ P) (nd σ P) s.heap h' := fun a o items n hN ho hd => by
  refine ⟨hs.extBut a o (fun e => ?_) ho, hN⟩
  obtain ⟨m, o', es, ep, ho', hd', _⟩ := hn
  subst e
  rw [ho'] at ho; cases ho; rw [hd'] at hd; cases hd

theorem R_comp {sc : Scope} {x : Nat} {fr : List Nat} {xp pos : Pos} {iter elt : Expr} {ifs : List Expr} {vt : VT} {vts : List VT} {tr : PEnv → Store → (D → List D → Store → Prop) → Prop} (hs : ∀ v, foldedSetIterable iter env v = pure v)
    (co : CompOk nm vs env sc x fr) (eo : EnvOk nm vs env) (hiter : SndI c A nm vs env tr iter) (helt : ∀ C, SndV c A nm (x :: fr) (compEnvC sc (clOf env sc) C env) vt elt) (hifs : ∀ C, SndL c A nm (x :: fr) (compEnvC sc (clOf env sc) C env) vts ifs)
    {m : Bool} {ρ : PEnv} {σ : Store} {Φ : D → Store → Prop}
    (h : tr ρ σ fun d ds σ₁ => ds.length ≤ small ∧ compS (fun e σ' K => ifsT vts ((ρ.only fr).put x e) σ' fun b σ'' => (b = true → vt.v ((ρ.only fr).put x e) σ'' fun r σ₃ => K (some r) σ₃) ∧ (b = false → K Option.none σ'')) (keepS d ds) ds σ₁ [] fun out σ₂ => mkS m out σ₂ Φ) :
    WPv c A nm vs env ρ σ (eval (.ListComp elt [⟨.Name (nm x) xp, iter, ifs, 0⟩] sc pos) env) Φ := by
  intro P s g Q E hQ
  rw [eval_ListComp]
  refine wpAny_comprehension_free (use := Option.none) rfl hs (closureFor_eq (co.cellsOf eo)) co.kind (fun y hy hl => by obtain ⟨n, k⟩ := y; simp only at hl; subst hl; exact lookup_nodup co.nodup hy) ?_
  refine hiter ρ σ _ h P s g _ _ fun xv d ds σ₁ s₁ hΦ st₁ ok₁ itv => ?_
  obtain ⟨v, hr, hk, hit⟩ := itv
  have g₁ := g.next st₁ ok₁
  refine hit _ _ fun I ok It s₂ hI kp T it hok => ?_
  refine comp_block T hok co eo helt hifs g₁ hI kp it hr hk hΦ.1 hΦ.2 (RR := fun acc C => compPost c.M A E Option.none Q acc C) ?_
  intro Dl C s' us out σ' hD hC hDC hΨ hdC hn hl hrl ok' st'
  obtain ⟨mm, hnn⟩ := hn
  refine ⟨mm, hnn, fun h'' hs'' => ?_⟩
  have k'' : ∀ b o, b ≠ C → s'.heap.get? b = some o → h''.get? b = some o := fun b o hb e => hs''.extBut b o hb e
  have stay'' : Stay (nd σ' fun a => P a ∨ a = Dl) (nd σ' fun a => P a ∨ a = Dl) s'.heap h'' := comp_pre ⟨mm, hnn⟩ hs''
  have ok'' : StoreOk σ' (fun a => P a ∨ a = Dl) h'' := ok'.fr stay'' hdC k''
  have hl'' : h''.PlainList Dl us := hl.at fun o e => k'' Dl o hDC e
  obtain ⟨e, σ'', q1, q2, q3, q4, _⟩ := comp_fin (s' := { s' with heap := h'' }) hΨ hD (fun hp => by obtain ⟨o, ho⟩ := g₁.prot _ hp; rw [hD] at ho; cases ho) hl'' (RepL.stay stay'' _ _ hrl) ok'' (st'.but (tk := s'.toks) hC k'')
  exact hQ _ e σ'' _ q1 (st₁.trans q2) q3 q4

/-- a comprehension that is stored at once -/
theorem R_assign_comp {sc : Scope} {x y : Nat} {fr : List Nat} {xp yp pos spos : Pos} {iter elt : Expr} {ifs : List Expr} {vt : VT} {vts : List VT} {tr : PEnv → Store → (D → List D → Store → Prop) → Prop} (hs : ∀ v, foldedSetIterable iter env v = pure v)
    (hsw : swapsWith (.ListComp elt [⟨.Name (nm x) xp, iter, ifs, 0⟩] sc pos) (some (.Name (nm y) yp)) spos.line env = pure true) (hy : y ∈ vs)
    (co : CompOk nm vs env sc x fr) (eo : EnvOk nm vs env) (hiter : SndI c A nm vs env tr iter) (helt : ∀ C, SndV c A nm (x :: fr) (compEnvC sc (clOf env sc) C env) vt elt) (hifs : ∀ C, SndL c A nm (x :: fr) (compEnvC sc (clOf env sc) C env) vts ifs)
    {m : Bool} {ρ : PEnv} {σ : Store} {Φ : Res → Prop}
    (h : tr ρ σ fun d ds σ₁ => ds.length ≤ small ∧ compS (fun e σ' K => ifsT vts ((ρ.only fr).put x e) σ' fun b σ'' => (b = true → vt.v ((ρ.only fr).put x e) σ'' fun r σ₃ => K (some r) σ₃) ∧ (b = false → K Option.none σ'')) (keepS d ds) ds σ₁ [] fun out σ₂ => mkS m out σ₂ fun d σ' => Φ (.next (ρ.put y d) σ')) :
    WPs c A nm vs env ρ σ (exec (.Assign [.Name (nm y) yp] (.ListComp elt [⟨.Name (nm x) xp, iter, ifs, 0⟩] sc pos) spos) env) Φ := by
  intro P s g Q E hQ
  rw [exec_Assign_Name_used _ _ _ _ hsw]
  refine wpAny_bind (wpAny_standAt (wpAny_bind ?_))
  show wpAny _ A (do let _ ← comprehension (.ListComp elt [⟨.Name (nm x) xp, iter, ifs, 0⟩] sc pos) sc env _ (newList []) false (eval iter env) (some (assign (.Name (nm y) yp) env))) _ _ s
  refine wpAny_bind (wpAny_mono (wpAny_comprehension_free (use := some (assign (.Name (nm y) yp) env)) (Q := fun _ s' => Q .next s') rfl hs (closureFor_eq (co.cellsOf eo)) co.kind (fun y hy hl => by obtain ⟨n, k⟩ := y; simp only at hl; subst hl; exact lookup_nodup co.nodup hy) ?_) (fun _ s' hq => wpAny_pure (wpAny_pure hq)) fun _ _ e => e)
  refine hiter ρ σ _ h P s g _ _ fun xv d ds σ₁ s₁ hΦ st₁ ok₁ itv => ?_
  obtain ⟨v, hr, hk, hit⟩ := itv
  have g₁ := g.next st₁ ok₁
  refine hit _ _ fun I ok It s₂ hI kp T it hok => ?_
  refine comp_block T hok co eo helt hifs g₁ hI kp it hr hk hΦ.1 hΦ.2 (RR := fun acc C => compPost c.M A E (some (assign (.Name (nm y) yp) env)) (fun _ s' => Q .next s') acc C) ?_
  intro Dl C s' us out σ' hD hC hDC hΨ hdC hn hl hrl ok' st'
  obtain ⟨e, σ'', q1, q2, q3, q4, q5⟩ := comp_fin hΨ hD (fun hp => by obtain ⟨o, ho⟩ := g₁.prot _ hp; rw [hD] at ho; cases ho) hl hrl ok' st'
  have g' := g₁.next q2 q3
  have nfC : ¬ FrA env C := fun hf => by obtain ⟨o, ho, _⟩ := g₁.fr_alive hf; rw [hC] at ho; cases ho
  have ndC : ¬ dom σ'' C := fun hd => (q5 C hd).elim hdC (fun q => hDC q.symm)
  show wpAny _ A (assign (.Name (nm y) yp) env (.ref Dl)) _ _ _
  refine wpAny_assign_Name (store_sound eo hy g' q4 fun s₃ st₃ g₃ => ?_)
  obtain ⟨mm, hnn⟩ := hn
  have hnC : s₃.heap.Ns C mm := hnn.at' fun o e => st₃.keep C o e ndC nfC
  refine ⟨mm, hnC, fun h'' hs'' => ?_⟩
  have k'' : ∀ b o, b ≠ C → s₃.heap.get? b = some o → h''.get? b = some o := fun b o hb e => hs''.extBut b o hb e
  have hbC : c.b.get? C = none := by
    cases e : c.b.get? C with
    | none => rfl
    | some o => rw [g₁.base C o e] at hC; cases hC
  have hPC : ¬ P C := fun hp => by obtain ⟨o, ho⟩ := g₁.prot _ hp; rw [hC] at ho; cases ho
  obtain ⟨g₄, _⟩ := g₃.change hbC nfC ndC (fun o items n _ ho hd => by obtain ⟨o', es, ep, ho', hd', _⟩ := hnC; rw [ho'] at ho; cases ho; rw [hd'] at hd; cases hd) (tk := s₃.toks) (fun q => (hPC q).elim) k''
  have st04 : Step (FrA env) σ σ'' s { s₃ with heap := h'' } := by
    have a1 : Step (FrA env) σ₁ σ'' s₁ s₃ := (q2.weak (fun _ h => h.elim)).trans st₃
    exact (st₁.weak (fun _ h => h.elim)).trans (a1.but (tk := s₃.toks) hC k'')
  exact hQ .next _ (.next (ρ.put y e) σ'') q1 st04 ⟨rfl, g₄⟩
end
end Mine

open PySem PyProof.Rows
set_option Elab.async false
set_option linter.unusedVariables false
namespace Mine

/-- a function of the text keeps its spec at every place with room n -/
structure Valid (c : Cx) (n : Nat) (f : Addr) (S : Spec) : Prop where
  fn : ∃ o fd, c.b.get? f = some o ∧ o.data = .func fd
  call : ∀ A, Room n A → ∀ ds σ Φ, S ds σ Φ → ∀ (P : Addr → Prop) (s : Shared) us, (∀ a o, c.b.get? a = some o → s.heap.get? a = some o) → StoreOk σ P s.heap → (∀ a, dom σ a → c.b.get? a = Option.none) → (∀ a, P a → ∃ o, s.heap.get? a = some o) →
    RepL (nd σ P) s.heap ds us → ∀ (Q : Value → Shared → Prop) (E : Value → Shared → Prop), (∀ v d σ' s', Φ d σ' → Step noF σ σ' s s' → StoreOk σ' P s'.heap → Rep (nd σ' P) s'.heap d v → Q v s') →
    codeAny c.M A (.call (.ref f) ⟨us, []⟩) (fun r s' => match r with | .ok (.ret v) => Q v s' | .ok _ => False | .error e => E e s') s
theorem Valid.mono {c : Cx} {n m : Nat} {f : Addr} {S : Spec} (V : Valid c n f S) (h : n ≤ m) : Valid c m f S := ⟨V.fn, fun A hA => V.call A (hA.le h)⟩

/-- the tables that a text's check needs -/
structure Tb where
  N : Nms
  gv : Nat → Value
  gl : List Nat
  fns : List Nat
  attrs : List (Nat × Str) := []
  sets : List (Nat × Str) := []
  meths : List (Nat × Str × Nat) := []
  news : List (Nat × Nat) := []

/-- what is known of global names, of attributes, methods and classes -/
structure GT (c : Cx) (n : Nat) (t : Tb) (S : Nat → Spec) : Prop where
  glob : ∀ g ∈ t.gl, c.glob (t.N.gn g) = some (t.gv g)
  fn : ∀ g ∈ t.fns, ∃ f, t.gv g = .ref f ∧ Valid c n f (S g)
  attr : ∀ x ∈ t.attrs, AttrOk c.K x.1 x.2
  set : ∀ x ∈ t.sets, SetOk c.K x.1 x.2
  meth : ∀ x ∈ t.meths, ∃ f, MethOk c.K x.1 x.2.1 f ∧ Valid c n f (S x.2.2)
  new : ∀ x ∈ t.news, ∃ f m, m + 1 ≤ n ∧ NewOk c.K x.1 f ∧ Valid c m f (S x.2)

noncomputable def Tb.gOk (t : Tb) (names : List (Str × NameKind)) (g : Nat) : Bool := names.contains (t.N.gn g, .globalImplicit) && !(t.N.gn g == ("__debug__" : Str)) && t.gl.contains g

noncomputable def compChk (t : Tb) (names : List (Str × NameKind)) (vs : List Nat) (sc : Scope) (x : Nat) (fr : List Nat) : Bool :=
  sc.kind == .function && decide (sc.names.map (·.1)).Nodup && sc.names.contains (t.N.nm x, .local) &&
  fr.all (fun i => vs.contains i && sc.names.contains (t.N.nm i, .free) && names.contains (t.N.nm i, .cell)) &&
  sc.names.all (fun y => y.2 != .free || fr.any fun i => t.N.nm i == y.1) && sc.names.all (fun y => y.2 != .cell) && !(t.N.nm x == ("__debug__" : Str))

/-- what may stand ahead of a dot -/
noncomputable def baseOk : PE → Bool
  | .call _ _ [] _ => false
  | .bi _ _ _ _ [] _ => false
  | .new _ _ _ _ [] _ => false
  | _ => true

mutual
noncomputable def wf (t : Tb) (names : List (Str × NameKind)) (vs : List Nat) : PE → Bool
  | .var i _ => vs.contains i
  | .cint _ _ => true
  | .cnone _ => true
  | .cbool _ _ => true
  | .bin _ l r _ => wf t names vs l && wf t names vs r
  | .neg e _ => wf t names vs e
  | .not e _ => wf t names vs e
  | .bop _ es _ => wfL t names vs es
  | .cmp _ l r _ => wf t names vs l && wf t names vs r
  | .cmp2 _ _ a b c _ => wf t names vs a && wf t names vs b && wf t names vs c
  | .call g _ args _ => t.gOk names g && t.fns.contains g && !args.isEmpty && wfL t names vs args
  | .bi b _ g _ args _ => t.gOk names g && t.gv g == b.val && !args.isEmpty && wfL t names vs args
  | .isi e ty g _ gt _ _ => t.gOk names g && t.gv g == .builtin "isinstance" && t.gOk names gt && t.gv gt == .type ty.name && wf t names vs e
  | .sub o i _ => wf t names vs o && wf t names vs i
  | .slc _ o lo hi _ _ => wf t names vs o && wfO t names vs lo && wfO t names vs hi
  | .list _ es _ => wfL t names vs es
  | .tup es _ _ => wfL t names vs es
  | .mmd mx g _ e _ _ _ => t.gOk names g && t.gv g == .builtin (if mx then "max" else "min") && wf t names vs e
  | .sset g _ g' _ e _ _ => t.gOk names g && t.gv g == .builtin "sorted" && t.gOk names g' && t.gv g' == .type "set" && wf t names vs e
  | .app o ap e p => (ap.endLine == p.line) && baseOk o && wf t names vs o && wf t names vs e
  | .attr C o name _ => baseOk o && t.attrs.contains (C, name) && wf t names vs o
  | .meth C g o name ap args p => (ap.endLine == p.line) && baseOk o && t.meths.contains (C, name, g) && Nat.ble args.length 5 && wf t names vs o && wfL t names vs args
  | .new C gi g _ args _ => t.gOk names g && t.gv g == .ref C && t.news.contains (C, gi) && wfL t names vs args
  | .lm _ o ap args p => (ap.endLine == p.line) && baseOk o && Nat.ble args.length 5 && wf t names vs o && wfL t names vs args
  | .lrange _ g _ g' _ e _ _ => t.gOk names g && t.gv g == .type "list" && t.gOk names g' && t.gv g' == .type "range" && wf t names vs e
  | .comp _ elt x _ it ifs sc fr _ => wfI t names vs it && compChk t names vs sc x fr && wf t sc.names (x :: fr) elt && wfL t sc.names (x :: fr) ifs
noncomputable def wfL (t : Tb) (names : List (Str × NameKind)) (vs : List Nat) : List PE → Bool
  | [] => true
  | e :: r => wf t names vs e && wfL t names vs r
noncomputable def wfO (t : Tb) (names : List (Str × NameKind)) (vs : List Nat) : Option PE → Bool
  | Option.none => true
  | some e => wf t names vs e
noncomputable def wfI (t : Tb) (names : List (Str × NameKind)) (vs : List Nat) : IT → Bool
  | .of e => wf t names vs e
  | .range g _ e _ => t.gOk names g && t.gv g == .type "range" && wf t names vs e
  | .range2 g _ a b _ => t.gOk names g && t.gv g == .type "range" && wf t names vs a && wf t names vs b
end
noncomputable def isComp : PE → Bool
  | .comp .. => true
  | _ => false

mutual
noncomputable def wfS (t : Tb) (names : List (Str × NameKind)) (vs : List Nat) : PS → Bool
  | .assign x _ e _ => vs.contains x && wf t names vs e
  | .expr e _ => !isComp e && wf t names vs e
  | .ite e b o _ => wf t names vs e && wfSs t names vs b && wfSs t names vs o
  | .loop x _ it b _ => vs.contains x && wfI t names vs it && wfSs t names vs b
  | .while e b _ => wf t names vs e && wfSs t names vs b
  | .ret e _ => wf t names vs e
  | .sattr C o name _ e _ => !isComp e && t.sets.contains (C, name) && wf t names vs o && wf t names vs e
noncomputable def wfSs (t : Tb) (names : List (Str × NameKind)) (vs : List Nat) : List PS → Bool
  | [] => true
  | s :: r => wfS t names vs s && wfSs t names vs r
end

/-- the names' table of a frame -/
structure Nm (env : Env) (names : List (Str × NameKind)) : Prop where
  glob : ∀ n, (n, NameKind.globalImplicit) ∈ names → env.kindOf n = some .globalImplicit
  cell : ∀ n, (n, NameKind.cell) ∈ names → env.kindOf n = some .cell

theorem compChk_ok {t : Tb} {names : List (Str × NameKind)} {vs : List Nat} {sc : Scope} {x : Nat} {fr : List Nat} {env : Env} (h : compChk t names vs sc x fr = true) (hn : Nm env names) : CompOk t.N.nm vs env sc x fr := by
  unfold compChk at h
  simp only [Bool.and_eq_true, Bool.not_eq_true', decide_eq_true_eq, List.all_eq_true] at h
  obtain ⟨⟨⟨⟨⟨⟨h1, h2⟩, h3⟩, h4⟩, h5⟩, h6⟩, h7⟩ := h
  refine ⟨by simpa using h1, h2, by simpa using h3, fun i hi => ?_, fun y hy hf => ?_, fun y hy => by simpa using h6 y hy, h7⟩
  · have := h4 i hi
    exact ⟨by simpa using this.1.1, by simpa using this.1.2, hn.cell _ (by simpa using this.2)⟩
  · have := h5 y hy
    rw [hf] at this
    simp at this
    obtain ⟨i, hi, e⟩ := this
    exact ⟨i, hi, e⟩

theorem nm_block {env : Env} {sc : Scope} {nm : Nat → Str} {vs : List Nat} {x : Nat} {fr : List Nat} (co : CompOk nm vs env sc x fr) (cl : List (Str × Addr)) (C : Addr) : Nm (compEnvC sc cl C env) sc.names where
  glob := fun n hm => by
    show (relabel sc env).names.lookup n = _
    rw [relabel_lookup co.nodup hm]; rfl
  cell := fun n hm => absurd rfl (co.nocell _ hm)

/-! the embedding makes no set display, no slice, no star -/
theorem embL_nil (N : Nms) : embL N [] = [] := rfl
theorem embL_cons (N : Nms) (e : PE) (r : List PE) : embL N (e :: r) = emb N e :: embL N r := rfl
theorem emb_marks (N : Nms) (op : CmpOp) (e : PE) : behindInMarks op (emb N e) = false := by cases e <;> rfl
theorem emb_sub (N : Nms) (e : PE) (x y : Value) : subscripted (emb N e) false x y = operate [x, y] (getItem x y) := by cases e <;> rfl
theorem emb_star (N : Nms) (e : PE) (rest : List Expr) (env : Env) : starEach (emb N e :: rest) env = (false, eval (emb N e) env) :: starEach rest env := by cases e <;> rfl
theorem emb_fold (N : Nms) (e : PE) (env : Env) (v : Value) : foldedSetIterable (emb N e) env v = pure v := by cases e <;> rfl
theorem embI_fold (N : Nms) (it : IT) (env : Env) (v : Value) : foldedSetIterable (embI N it) env v = pure v := by
  cases it with
  | of e => exact emb_fold N e env v
  | _ => rfl
theorem emb_base (N : Nms) (e : PE) (a : Str) (env : Env) (x : Sem Value) (h : baseOk e = true) : attributeBase (emb N e) a env x = x := by
  cases e with
  | call g gp args p => cases args <;> first | rfl | cases h
  | bi b m g gp args p => cases args <;> first | rfl | cases h
  | new C gi g gp args p => cases args <;> first | rfl | cases h
  | _ => rfl
theorem plain_star {env : Env} {pos : Pos} : ∀ (N : Nms) (es : List PE), (backTo pos (starEach (embL N es) env)).any (·.1) = false
  | N, [] => rfl
  | N, e :: r => by
    show (backTo pos (starEach (emb N e :: embL N r) env)).any (·.1) = false
    rw [emb_star]
    exact plain_star (env := env) (pos := pos) N r
end Mine

open PySem PyProof.Rows
set_option Elab.async false
set_option linter.unusedVariables false
namespace Mine
section
variable {c : Cx} {A : Around} {nm : Nat → Str} {vs : List Nat} {env : Env}

theorem units_ok {n : Nat} (hA : Room n A) : A.units + 64 < cLine := by have := hA.2.2; unfold cLine; omega

theorem sndT_of {v : ETr} {e : Expr} (hv : SndV c A nm vs env (.of v) e) (he : ∀ whole, isTrue e env whole = (do let v ← whole; standAt e.pos; holding [v] (truthy v))) : SndT c A nm vs env (.of v) e := by
  intro ρ σ Φ h P s g Q E hQ
  refine isTrue_plain ?_ (he _)
  refine hv ρ σ _ h P s g _ _ fun u d σ' s' hd st ok hr => ?_
  exact truthS_sound hd hr fun b hb => hQ b σ' s' hb st ok

theorem L_bin {x y : VT} {l r : Expr} {op : Operator} {p : Pos} (hx : SndV c A nm vs env x l) (hy : SndV c A nm vs env y r) :
    SndV c A nm vs env (.of fun ρ σ Φ => x.v ρ σ fun a σ₁ => y.v ρ σ₁ fun b σ₂ => binS op a b σ₂ Φ) (.BinOp l op r p) := by
  intro ρ σ Φ h P s g Q E hQ
  refine wpAny_BinOp (R_two g (hx ρ σ _ h) (fun d σ' hd => hy ρ σ' _ hd) fun v₁ v₂ d₁ d₂ σ' s' hb st g' r₁ r₂ => ?_)
  exact binS_sound g' hb r₁ r₂ fun v d σ'' s'' a b e f => hQ v d σ'' s'' a (st.trans b) e f

theorem L_cmp {x y : VT} {l r : Expr} {op : CmpOp} {p : Pos} (hu : A.units + 64 < cLine) (hm : behindInMarks op r = false) (hx : SndV c A nm vs env x l) (hy : SndV c A nm vs env y r) :
    SndV c A nm vs env (.of fun ρ σ Φ => x.v ρ σ fun a σ₁ => y.v ρ σ₁ fun b σ₂ => cmpS op a b σ₂ Φ) (.Compare l [op] [r] p) ∧
    SndT c A nm vs env (.of fun ρ σ Φ => x.v ρ σ fun a σ₁ => y.v ρ σ₁ fun b σ₂ => cmpS op a b σ₂ Φ) (.Compare l [op] [r] p) := by
  constructor
  · intro ρ σ Φ h P s g Q E hQ
    refine wpAny_Compare1 (R_two g (hx ρ σ _ h) (fun d σ' hd => hy ρ σ' _ hd) fun v₁ v₂ d₁ d₂ σ' s' hb st g' r₁ r₂ => ?_) hm
    exact cmpS_sound hu g' hb r₁ r₂ fun v d σ'' s'' a b e f => hQ v d σ'' s'' a (st.trans b) e f
  · intro ρ σ Φ h P s g Q E hQ
    refine wpAny_isTrue_Compare1 (R_two g (hx ρ σ _ h) (fun d σ' hd => hy ρ σ' _ hd) fun v₁ v₂ d₁ d₂ σ' s' hb st g' r₁ r₂ => ?_) hm
    exact cmpS_sound hu g' hb r₁ r₂ fun v d σ'' s'' a b e f => truthS_sound a f fun t ht => hQ t σ'' s'' ht (st.trans b) e

theorem L_cmp2 {x y z : VT} {l m r : Expr} {o₁ o₂ : CmpOp} {p : Pos} (hu : A.units + 64 < cLine) (hm : behindInMarks o₂ r = false) (hx : SndV c A nm vs env x l) (hy : SndV c A nm vs env y m) (hz : SndV c A nm vs env z r) :
    SndV c A nm vs env (.of fun ρ σ Φ => x.v ρ σ fun a σ₁ => y.v ρ σ₁ fun b σ₂ => cmpS o₁ a b σ₂ fun d σ₃ => truthS d σ₃ fun t σ₄ => (t = false → Φ (.bool false) σ₄) ∧ (t = true → z.v ρ σ₄ fun w σ₅ => cmpS o₂ b w σ₅ Φ)) (.Compare l [o₁, o₂] [m, r] p) ∧
    SndT c A nm vs env (.of fun ρ σ Φ => x.v ρ σ fun a σ₁ => y.v ρ σ₁ fun b σ₂ => cmpS o₁ a b σ₂ fun d σ₃ => truthS d σ₃ fun t σ₄ => (t = false → Φ (.bool false) σ₄) ∧ (t = true → z.v ρ σ₄ fun w σ₅ => cmpS o₂ b w σ₅ Φ)) (.Compare l [o₁, o₂] [m, r] p) := by
  constructor
  · intro ρ σ Φ h P s g Q E hQ
    refine Compare_chain ?_ hm
    refine hx ρ σ _ h P s g _ _ fun v₁ d₁ σ₁ s₁ h₁ st₁ ok₁ r₁ => ?_
    have g₁ := g.next st₁ ok₁
    refine chain_link (hy ρ σ₁ _ h₁ P s₁ g₁ _ _ fun v₂ d₂ σ₂ s₂ h₂ st₂ ok₂ r₂ => ?_)
    have g₂ := g₁.next st₂ ok₂
    refine cmpS_sound hu g₂ h₂ (Rep.stay (st₂.stay P) _ _ r₁) r₂ fun v₃ d₃ σ₃ s₃ h₃ st₃ ok₃ r₃ => ?_
    have g₃ := g₂.next st₃ ok₃
    cases d₃ <;> simp only [truthS] at h₃
    rename_i t
    simp only [Rep] at r₃
    subst r₃
    refine wpAny_truthy_bool ?_
    cases t with
    | false => simp only [Bool.false_eq_true, if_false]; exact hQ _ (.bool false) σ₃ s₃ (h₃.1 rfl) ((st₁.trans st₂).trans st₃) ok₃ rep_bool
    | true =>
      simp only [if_true]
      refine chain_last (hz ρ σ₃ _ (h₃.2 rfl) P s₃ g₃ _ _ fun v₄ d₄ σ₄ s₄ h₄ st₄ ok₄ r₄ => ?_)
      exact cmpS_sound hu (g₃.next st₄ ok₄) h₄ (Rep.stay (st₄.stay P) _ _ (Rep.stay (st₃.stay P) _ _ r₂)) r₄ fun v d σ'' s'' a b e f => hQ v d σ'' s'' a ((((st₁.trans st₂).trans st₃).trans st₄).trans b) e f
  · intro ρ σ Φ h P s g Q E hQ
    refine isTrue_chain ?_ hm
    refine hx ρ σ _ h P s g _ _ fun v₁ d₁ σ₁ s₁ h₁ st₁ ok₁ r₁ => ?_
    have g₁ := g.next st₁ ok₁
    refine test_link (hy ρ σ₁ _ h₁ P s₁ g₁ _ _ fun v₂ d₂ σ₂ s₂ h₂ st₂ ok₂ r₂ => ?_)
    have g₂ := g₁.next st₂ ok₂
    refine cmpS_sound hu g₂ h₂ (Rep.stay (st₂.stay P) _ _ r₁) r₂ fun v₃ d₃ σ₃ s₃ h₃ st₃ ok₃ r₃ => ?_
    have g₃ := g₂.next st₃ ok₃
    cases d₃ <;> simp only [truthS] at h₃
    rename_i t
    simp only [Rep] at r₃
    subst r₃
    refine wpAny_truthy_bool ?_
    cases t with
    | false => simp only [Bool.false_eq_true, if_false]; exact hQ false σ₃ s₃ (h₃.1 rfl) ((st₁.trans st₂).trans st₃) ok₃
    | true =>
      simp only [if_true]
      refine test_last (hz ρ σ₃ _ (h₃.2 rfl) P s₃ g₃ _ _ fun v₄ d₄ σ₄ s₄ h₄ st₄ ok₄ r₄ => ?_)
      exact cmpS_sound hu (g₃.next st₄ ok₄) h₄ (Rep.stay (st₄.stay P) _ _ (Rep.stay (st₃.stay P) _ _ r₂)) r₄ fun v d σ'' s'' a b e f => truthS_sound a f fun t ht => hQ t σ'' s'' ht ((((st₁.trans st₂).trans st₃).trans st₄).trans b) e

theorem L_neg {x : VT} {e : Expr} {p : Pos} (hx : SndV c A nm vs env x e) : SndV c A nm vs env (.of fun ρ σ Φ => x.v ρ σ fun d σ' => match d with | .int i => Φ (.int (-i)) σ' | _ => False) (.UnaryOp .USub e p) := by
  intro ρ σ Φ h P s g Q E hQ
  refine UnaryOp_ (hx ρ σ _ h P s g _ _ fun v d σ' s' hd st ok hr => ?_)
  cases d <;> simp only at hd
  simp only [Rep] at hr
  obtain ⟨t, rfl⟩ := hr
  exact PyProof.Rows.neg_int (fin_keeps (g.next st ok) (fun v d σ'' s'' a b e f => hQ v d σ'' s'' a (st.trans b) e f) hd (keeps_toks s' _) rep_int)

theorem L_not {x : VT} {e : Expr} {p : Pos} (hx : SndV c A nm vs env x e) (ht : SndT c A nm vs env x e) :
    SndV c A nm vs env ⟨fun ρ σ Φ => x.v ρ σ fun d σ' => truthS d σ' fun b σ'' => Φ (.bool (!b)) σ'', fun ρ σ Φ => x.t ρ σ fun b σ' => Φ (!b) σ'⟩ (.UnaryOp .Not e p) ∧
    SndT c A nm vs env ⟨fun ρ σ Φ => x.v ρ σ fun d σ' => truthS d σ' fun b σ'' => Φ (.bool (!b)) σ'', fun ρ σ Φ => x.t ρ σ fun b σ' => Φ (!b) σ'⟩ (.UnaryOp .Not e p) := by
  constructor
  · intro ρ σ Φ h P s g Q E hQ
    refine UnaryOp_ (hx ρ σ _ h P s g _ _ fun v d σ' s' hd st ok hr => not_of ?_)
    exact truthS_sound hd hr fun b hb => hQ _ (.bool (!b)) σ' s' hb st ok rep_bool
  · intro ρ σ Φ h P s g Q E hQ
    exact isTrue_not (ht ρ σ _ h P s g _ _ fun b σ' s' hb st ok => hQ (!b) σ' s' hb st ok)

theorem L_bopT {op : BoolOp} {p : Pos} {whole : Sem Value} {xs : List VT} {es : List Expr} (h : SndL c A nm vs env xs es) : ∀ ρ σ Φ, bopT op xs ρ σ Φ → WPb c A nm vs env ρ σ (isTrue (.BoolOp op es p) env whole) Φ := by
  induction h with
  | nil =>
    intro ρ σ Φ h P s g Q E hQ
    cases op
    · exact isTrue_and_nil (hQ true σ s h (Step.refl _ _ _) g.st)
    · exact isTrue_or_nil (hQ false σ s h (Step.refl _ _ _) g.st)
  | cons hv ht _ ih =>
    intro ρ σ Φ h P s g Q E hQ
    cases op
    · refine isTrue_and (ht ρ σ _ h P s g _ _ fun b σ₁ s₁ hb st₁ ok₁ => ?_)
      cases b with
      | false => simp only [Bool.false_eq_true, if_false]; exact hQ false σ₁ s₁ (hb.1 rfl) st₁ ok₁
      | true => simp only [if_true]; exact ih ρ σ₁ Φ (hb.2 rfl) P s₁ (g.next st₁ ok₁) Q E fun b' σ₂ s₂ h₂ st₂ ok₂ => hQ b' σ₂ s₂ h₂ (st₁.trans st₂) ok₂
    · refine isTrue_or (ht ρ σ _ h P s g _ _ fun b σ₁ s₁ hb st₁ ok₁ => ?_)
      cases b with
      | true => simp only [if_true]; exact hQ true σ₁ s₁ (hb.1 rfl) st₁ ok₁
      | false => simp only [Bool.false_eq_true, if_false]; exact ih ρ σ₁ Φ (hb.2 rfl) P s₁ (g.next st₁ ok₁) Q E fun b' σ₂ s₂ h₂ st₂ ok₂ => hQ b' σ₂ s₂ h₂ (st₁.trans st₂) ok₂

theorem L_bopV {op : BoolOp} {p : Pos} {xs : List VT} {es : List Expr} (h : SndL c A nm vs env xs es) : ∀ ρ σ Φ, bopV op xs ρ σ Φ → WPv c A nm vs env ρ σ (eval (.BoolOp op es p) env) Φ := by
  induction h with
  | nil => intro ρ σ Φ h; exact h.elim
  | cons hv ht tl ih =>
    intro ρ σ Φ h P s g Q E hQ
    cases tl with
    | nil => exact BoolOp_one (hv ρ σ _ h P s g _ _ hQ)
    | cons hv' ht' tl' =>
      cases op
      · refine BoolOp_and (hv ρ σ _ h P s g _ _ fun v d σ₁ s₁ hd st₁ ok₁ hr => truthS_sound hd hr fun b hb => ?_)
        cases b with
        | false => simp only [Bool.false_eq_true, if_false]; exact hQ v d σ₁ s₁ (hb.1 rfl) st₁ ok₁ hr
        | true => simp only [if_true]; exact ih ρ σ₁ Φ (hb.2 rfl) P s₁ (g.next st₁ ok₁) Q E fun v' d' σ₂ s₂ h₂ st₂ ok₂ r₂ => hQ v' d' σ₂ s₂ h₂ (st₁.trans st₂) ok₂ r₂
      · refine BoolOp_or (hv ρ σ _ h P s g _ _ fun v d σ₁ s₁ hd st₁ ok₁ hr => truthS_sound hd hr fun b hb => ?_)
        cases b with
        | true => simp only [if_true]; exact hQ v d σ₁ s₁ (hb.1 rfl) st₁ ok₁ hr
        | false => simp only [Bool.false_eq_true, if_false]; exact ih ρ σ₁ Φ (hb.2 rfl) P s₁ (g.next st₁ ok₁) Q E fun v' d' σ₂ s₂ h₂ st₂ ok₂ r₂ => hQ v' d' σ₂ s₂ h₂ (st₁.trans st₂) ok₂ r₂

theorem L_args {N : Nms} {pos : Pos} : ∀ (es : List PE) (xs : List VT), SndL c A nm vs env xs (embL N es) → ∀ ρ σ Φ, argsV xs ρ σ Φ → WPl c A nm vs env ρ σ (spliced (backTo pos (starEach (embL N es) env))) Φ
  | [], xs, h, ρ, σ, Φ, ha => by
    simp only [embL_nil, embL_cons] at h ⊢
    cases h
    intro P s g Q E hQ
    exact args_nil (hQ [] [] σ s ha (Step.refl _ _ _) g.st .nil)
  | e :: r, xs, h, ρ, σ, Φ, ha => by
    simp only [embL_nil, embL_cons] at h ⊢
    cases h with
    | cons hv _ tl =>
      intro P s g Q E hQ
      simp only [argsV] at ha
      refine args_cons (hv ρ σ _ ha P s g _ _ fun v d σ₁ s₁ hd st₁ ok₁ r₁ => ?_) (emb_star N e _ env)
      exact L_args r _ tl ρ σ₁ _ hd P s₁ (g.next st₁ ok₁) _ _ fun us ds σ₂ s₂ h₂ st₂ ok₂ r₂ => hQ (v :: us) (d :: ds) σ₂ s₂ h₂ (st₁.trans st₂) ok₂ (.cons (Rep.stay (st₂.stay P) _ _ r₁) r₂)

theorem L_sub {x y : VT} {o i : Expr} {p : Pos} (hi : ∀ a b, subscripted i false a b = operate [a, b] (getItem a b)) (hx : SndV c A nm vs env x o) (hy : SndV c A nm vs env y i) :
    SndV c A nm vs env (.of fun ρ σ Φ => x.v ρ σ fun a σ₁ => y.v ρ σ₁ fun b σ₂ => subS a b σ₂ Φ) (.Subscript o i p) := by
  intro ρ σ Φ h P s g Q E hQ
  refine Subscript_ (R_two g (hx ρ σ _ h) (fun d σ' hd => hy ρ σ' _ hd) fun v₁ v₂ d₁ d₂ σ' s' hb st g' r₁ r₂ => ?_)
  exact subS_sound hi g' hb r₁ r₂ fun v d σ'' s'' a b e f => hQ v d σ'' s'' a (st.trans b) e f

theorem L_list {N : Nms} {m : Bool} {es : List PE} {xs : List VT} {p : Pos} (h : SndL c A nm vs env xs (embL N es)) : SndV c A nm vs env (.of fun ρ σ Φ => argsV xs ρ σ fun ds σ' => Nat.ble ds.length small = true ∧ mkS m ds σ' Φ) (.List (embL N es) p) := by
  intro ρ σ Φ ha P s g Q E hQ
  refine List_ (L_args es xs h ρ σ _ ha P s g _ _ fun us ds σ₁ s₁ hd st₁ ok₁ r₁ => ?_)
  have g₁ := g.next st₁ ok₁
  have el := r₁.length
  have hl := Nat.le_of_ble_eq_true hd.1
  exact wpAny_newObj_type (fin_list g₁ hd.2 (fun v d σ'' s'' a b e f => hQ v d σ'' s'' a (st₁.trans b) e f) (keeps_push' s₁ _) (get?_size_none _) (us := us) ⟨0, Heap.get?_push_size _ rfl⟩ r₁) (by show us.toArray.size ≤ sizeLine; rw [List.size_toArray]; have := sizeLine_small; omega)

theorem L_tup {N : Nms} {es : List PE} {xs : List VT} {k : Nat} {p : Pos} (h : SndL c A nm vs env xs (embL N es)) : SndV c A nm vs env (.of fun ρ σ Φ => argsV xs ρ σ fun ds σ' => Nat.ble ds.length small = true ∧ Φ (.tuple ds) σ') (.Tuple (embL N es) k p) := by
  intro ρ σ Φ ha P s g Q E hQ
  refine Tuple_ (L_args es xs h ρ σ _ ha P s g _ _ fun us ds σ₁ s₁ hd st₁ ok₁ r₁ => ?_)
  have g₁ := g.next st₁ ok₁
  have el := r₁.length
  have hl := Nat.le_of_ble_eq_true hd.1
  exact wpAny_newObj_type (fin_tuple g₁ hd.2 (fun v d σ'' s'' a b e f => hQ v d σ'' s'' a (st₁.trans b) e f) (keeps_push' s₁ _) (get?_size_none _) (us := us) ⟨_, Heap.get?_push_size _ rfl, rfl, 0, rfl⟩ r₁) (by show us.toArray.size ≤ sizeLine; rw [List.size_toArray]; have := sizeLine_small; omega)

/-- a call by a global name: the name, then the arguments -/
theorem call_name {N : Nms} {x : Str} {gp p : Pos} {fv : Value} {es : List PE} {ρ : PEnv} {σ : Store} {P : Addr → Prop} {s : Shared} {Q : Value → Shared → Prop} {E : Value → Shared → Prop} (eo : EnvOk nm vs env) (hx : env.kindOf x = some .globalImplicit) (hd : (x == ("__debug__" : Str)) = false) (hv : c.glob x = some fv)
    (g : Good c nm vs env ρ σ P s) (h : wpAny c.M A (callWith p fv [] (backTo p (starEach (embL N es) env)) []) Q E s) : wpAny c.M A (eval (.Call (.Name x gp) (embL N es) [] p) env) Q E s := by
  rw [arm_eval_Call_Name']
  exact wpAny_bind (R_glob eo hx hd hv g h)

theorem L_call {N : Nms} {x : Str} {gp p : Pos} {f : Addr} {S : Spec} {n : Nat} {es : List PE} {xs : List VT} (hA : Room n A) (eo : EnvOk nm vs env) (hx : env.kindOf x = some .globalImplicit) (hd : (x == ("__debug__" : Str)) = false) (hv : c.glob x = some (.ref f)) (V : Valid c n f S)
    (hne : es ≠ []) (h : SndL c A nm vs env xs (embL N es)) : SndV c A nm vs env (.of fun ρ σ Φ => argsV xs ρ σ fun ds σ' => S ds σ' Φ) (.Call (.Name x gp) (embL N es) [] p) := by
  intro ρ σ Φ ha P s g Q E hQ
  refine call_name eo hx hd hv g ?_
  obtain ⟨o, fd, ho, hdat⟩ := V.fn
  cases es with
  | nil => exact absurd rfl hne
  | cons e r =>
    have h0 := L_args (pos := p) (e :: r) xs h ρ σ _ ha P s g
    simp only [embL_nil, embL_cons] at h0 ⊢
    refine callWith_def hdat (h0 _ _ fun us ds σ₁ s₁ hS st₁ ok₁ r₁ => ?_) (emb_star N e _ env)
    have g₁ := g.next st₁ ok₁
    refine ⟨g₁.base f o ho, ?_⟩
    refine wpAny_call ?_
    exact V.call A hA ds σ₁ _ hS P s₁ us g₁.base ok₁ (fun a ha => (g₁.own a ha).1) g₁.prot r₁ Q E fun v d σ'' s'' a b e f => hQ v d σ'' s'' a (st₁.trans b) e f

theorem L_bi {N : Nms} {x : Str} {gp p : Pos} {b : BI} {m : Bool} {es : List PE} {xs : List VT} (hh : A.handled = none) (eo : EnvOk nm vs env) (hx : env.kindOf x = some .globalImplicit) (hd : (x == ("__debug__" : Str)) = false) (hv : c.glob x = some b.val)
    (hne : es ≠ []) (h : SndL c A nm vs env xs (embL N es)) : SndV c A nm vs env (.of fun ρ σ Φ => argsV xs ρ σ fun ds σ' => biS b m ds σ' Φ) (.Call (.Name x gp) (embL N es) [] p) := by
  intro ρ σ Φ ha P s g Q E hQ
  refine call_name eo hx hd hv g ?_
  cases es with
  | nil => exact absurd rfl hne
  | cons e r =>
    have h0 := L_args (pos := p) (e :: r) xs h ρ σ _ ha P s g
    have pl := plain_star (env := env) (pos := p) N r
    simp only [embL_nil, embL_cons] at h0 ⊢
    have fin : wpAny c.M A (spliced (backTo p (starEach (emb N e :: embL N r) env))) (fun us s₁ => wpAny c.M A (PySem.call b.val us) Q E s₁) E s := h0 _ _ fun us ds σ₁ s₁ hS st₁ ok₁ r₁ =>
      biS_sound hh (g.next st₁ ok₁) hS r₁ fun v d σ'' s'' a b e f => hQ v d σ'' s'' a (st₁.trans b) e f
    cases b with
    | list | tupleA => exact PyProof.Rows.callWith_type1 fin (emb_star N e _ env) pl
    | _ => exact callWith_builtin1 fin (emb_star N e _ env) pl

theorem L_isi {N : Nms} {x y : Str} {gp tp p : Pos} {ty : TY} {e : PE} {v : VT} (eo : EnvOk nm vs env) (hx : env.kindOf x = some .globalImplicit) (hd : (x == ("__debug__" : Str)) = false) (hv : c.glob x = some (.builtin "isinstance"))
    (hy : env.kindOf y = some .globalImplicit) (hd' : (y == ("__debug__" : Str)) = false) (hv' : c.glob y = some (.type ty.name)) (h : SndV c A nm vs env v (emb N e)) :
    SndV c A nm vs env (.of fun ρ σ Φ => v.v ρ σ fun d σ' => ∃ t, tyS ty d σ' = some t ∧ Φ (.bool t) σ') (.Call (.Name x gp) [emb N e, .Name y tp] [] p) := by
  intro ρ σ Φ ha P s g Q E hQ
  rw [arm_eval_Call_Name']
  refine wpAny_bind (R_glob eo hx hd hv g ?_)
  refine callWith_builtin1 ?_ (emb_star N e _ env) rfl
  refine args_cons (h ρ σ _ ha P s g _ _ fun u d σ₁ s₁ hS st₁ ok₁ r₁ => ?_) (emb_star N e _ env)
  have g₁ := g.next st₁ ok₁
  refine args_cons (R_glob eo hy hd' hv' g₁ (args_nil ?_))
  obtain ⟨t, e1, h1⟩ := hS
  exact tyS_sound g₁ e1 h1 r₁ fun v d σ'' s'' a b e f => hQ v d σ'' s'' a (st₁.trans b) e f

theorem L_mmd {N : Nms} {mx : Bool} {x : Str} {gp cp kp p : Pos} {e : PE} {v : VT} (hh : A.handled = none) (eo : EnvOk nm vs env) (hx : env.kindOf x = some .globalImplicit) (hd : (x == ("__debug__" : Str)) = false) (hv : c.glob x = some (.builtin (if mx then "max" else "min")))
    (h : SndV c A nm vs env v (emb N e)) : SndV c A nm vs env (.of fun ρ σ Φ => v.v ρ σ fun d σ' => mmS mx d σ' Φ) (.Call (.Name x gp) [emb N e] [⟨some (Str.ofString "default"), .Constant .none 0 cp, kp⟩] p) := by
  intro ρ σ Φ ha P s g Q E hQ
  rw [arm_eval_Call_Name']
  refine wpAny_bind (R_glob eo hx hd hv g ?_)
  have es := emb_star N e [] env
  refine callWith_kw (kws := [⟨some (Str.ofString "default"), .Constant .none 0 cp, kp⟩]) ?_ (by rw [es]; rfl) (by rw [es]; rfl)
  refine args_cons (h ρ σ _ ha P s g _ _ fun u d σ₁ s₁ hS st₁ ok₁ r₁ => ?_) es
  have g₁ := g.next st₁ ok₁
  refine args_nil (evalAll_cons ?_)
  refine wpAny_bind (wpAny_Constant_none (wpAny_bind (wpAny_standAt (wpAny_pure (evalAll_nil ?_)))))
  exact mm_sound hh g₁ hS r₁ fun v d σ'' s'' a b e f => hQ v d σ'' s'' a (st₁.trans b) e f

theorem L_sset {N : Nms} {x y : Str} {gp gp' p' p : Pos} {e : PE} {v : VT} (hh : A.handled = none) (eo : EnvOk nm vs env) (hx : env.kindOf x = some .globalImplicit) (hd : (x == ("__debug__" : Str)) = false) (hv : c.glob x = some (.builtin "sorted"))
    (hy : env.kindOf y = some .globalImplicit) (hd' : (y == ("__debug__" : Str)) = false) (hv' : c.glob y = some (.type "set")) (h : SndV c A nm vs env v (emb N e)) :
    SndV c A nm vs env (.of fun ρ σ Φ => v.v ρ σ fun d σ' => ssetS d σ' Φ) (.Call (.Name x gp) [.Call (.Name y gp') [emb N e] [] p'] [] p) := by
  intro ρ σ Φ ha P s g Q E hQ
  rw [arm_eval_Call_Name']
  refine wpAny_bind (R_glob eo hx hd hv g ?_)
  refine callWith_builtin1 ?_ rfl rfl
  refine args_cons ?_ rfl
  rw [arm_eval_Call_Name']
  refine wpAny_bind (R_glob eo hy hd' hv' g ?_)
  refine PyProof.Rows.callWith_type1 ?_ (emb_star N e _ env) rfl
  refine args_cons (h ρ σ _ ha P s g _ _ fun u d σ₁ s₁ hS st₁ ok₁ r₁ => ?_) (emb_star N e _ env)
  have g₁ := g.next st₁ ok₁
  refine args_nil ?_
  refine wpAny_mono (sset_sound hh g₁ hS r₁ fun v d σ'' s'' a b e f => hQ v d σ'' s'' a (st₁.trans b) e f) (fun u s' h => args_nil h) fun _ _ e => e

theorem L_app {N : Nms} {ap p : Pos} {o e : PE} {x y : VT} (hl : (ap.endLine == p.line) = true) (hb : baseOk o = true) (hx : SndV c A nm vs env x (emb N o)) (hy : SndV c A nm vs env y (emb N e)) :
    SndV c A nm vs env (.of fun ρ σ Φ => x.v ρ σ fun a σ₁ => isML a σ₁ ∧ y.v ρ σ₁ fun b σ₂ => appS a b σ₂ Φ) (.Call (.Attribute (emb N o) (Str.ofString "append") ap) [emb N e] [] p) := by
  intro ρ σ Φ ha P s g Q E hQ
  rw [arm_eval_Call, emb_base N o _ _ _ hb]
  refine wpAny_bind (hx ρ σ _ ha P s g _ _ fun v₁ d₁ σ₁ s₁ h₁ st₁ ok₁ r₁ => ?_)
  have g₁ := g.next st₁ ok₁
  refine wpAny_bind (wpAny_standAt ?_)
  obtain ⟨hm, h₁⟩ := h₁
  have es := emb_star N e [] env
  unfold isML at hm
  split at hm
  · rename_i a
    obtain ⟨xs, hm⟩ := hm
    have r₁' := r₁
    simp only [Rep] at r₁
    subst r₁
    obtain ⟨us, ⟨n, ho⟩, _⟩ := g₁.st.rep a _ hm
    have hform : methodCallForm (([emb N e] : List Expr).length + ([] : List Keyword).length) (backTo p (starEach [emb N e] env)) (backToKw p (keywordEach [] env)) = true := by rw [es]; rfl
    have hpos : methodCallPos true (emb N o) env ap p = pure p := by unfold methodCallPos; simp [hl]
    unfold methodCall
    rw [hform]
    refine wpAny_bind (wpAny_holding (Calls.getMethod_list_append ho rfl rfl ?_))
    refine wpAny_bind (wpAny_of_eq hpos ?_)
    rw [show backTo p (starEach [emb N e] env) = [(false, eval (emb N e) env)] from by rw [es]; rfl]
    refine Calls.callWith_builtin rfl (Calls.evalArgs_plain (Calls.spliced_cons ?_))
    refine hy ρ σ₁ _ h₁ P s₁ g₁ _ _ fun v₂ d₂ σ₂ s₂ h₂ st₂ ok₂ r₂ => ?_
    have g₂ := g₁.next st₂ ok₂
    refine Calls.spliced_nil ?_
    exact app_sound g₂ h₂ (Rep.stay (st₂.stay P) _ _ r₁') r₂ fun v d σ'' s'' a b e f => hQ v d σ'' s'' a ((st₁.trans st₂).trans b) e f
  · exact hm.elim

/-- an optional part of a slice -/
noncomputable def SndO (c : Cx) (A : Around) (nm : Nat → Str) (vs : List Nat) (env : Env) (tr : PEnv → Store → (Option D → Store → Prop) → Prop) (e : Option Expr) : Prop :=
  ∀ ρ σ Φ, tr ρ σ Φ → ∀ P s, Good c nm vs env ρ σ P s → ∀ (Q : Value → Shared → Prop) (E : Value → Shared → Prop),
    (∀ v o σ' s', Φ o σ' → Step noF σ σ' s s' → StoreOk σ' P s'.heap → ((o = Option.none ∧ v = .none) ∨ ∃ d, o = some d ∧ Rep (nd σ' P) s'.heap d v) → Q v s') → wpAny c.M A (evalPart e env) Q E s

theorem part_stay {σ σ' : Store} {P : Addr → Prop} {s s' : Shared} {o : Option D} {v : Value} (st : Step noF σ σ' s s') (h : (o = Option.none ∧ v = .none) ∨ ∃ d, o = some d ∧ Rep (nd σ P) s.heap d v) : (o = Option.none ∧ v = .none) ∨ ∃ d, o = some d ∧ Rep (nd σ' P) s'.heap d v :=
  h.imp id fun ⟨d, a, b⟩ => ⟨d, a, Rep.stay (st.stay P) _ _ b⟩

theorem L_slc {x : VT} {tl th : PEnv → Store → (Option D → Store → Prop) → Prop} {o : Expr} {lo hi : Option Expr} {m : Bool} {sp p : Pos} (hx : SndV c A nm vs env x o) (hl : SndO c A nm vs env tl lo) (hh : SndO c A nm vs env th hi) :
    SndV c A nm vs env (.of fun ρ σ Φ => x.v ρ σ fun a σ₁ => tl ρ σ₁ fun l σ₂ => th ρ σ₂ fun h σ₃ => slcS m a l h σ₃ Φ) (.Subscript o (.Slice lo hi Option.none sp) p) := by
  intro ρ σ Φ h P s g Q E hQ
  refine Subscript_ (hx ρ σ _ h P s g _ _ fun v₁ d₁ σ₁ s₁ h₁ st₁ ok₁ r₁ => ?_)
  have g₁ := g.next st₁ ok₁
  refine wpAny_Slice (hl ρ σ₁ _ h₁ P s₁ g₁ _ _ fun v₂ o₂ σ₂ s₂ h₂ st₂ ok₂ r₂ => ?_)
  have g₂ := g₁.next st₂ ok₂
  refine hh ρ σ₂ _ h₂ P s₂ g₂ _ _ fun v₃ o₃ σ₃ s₃ h₃ st₃ ok₃ r₃ => ?_
  have g₃ := g₂.next st₃ ok₃
  rw [evalPart_none]
  refine wpAny_pure ?_
  have kp := keeps_push' s₃ ({ cls := .type "slice", data := .fields #[v₂, v₃, .none] } : Obj)
  have st₄ : Step noF σ₃ σ₃ s₃ _ := Step.of_keeps kp
  have g₄ := g₃.next st₄ (g₃.st.keeps (keeps_heap kp))
  refine slcS_sound g₄ h₃ (Rep.stay (st₄.stay P) _ _ (Rep.stay (st₃.stay P) _ _ (Rep.stay (st₂.stay P) _ _ r₁))) (part_stay st₄ (part_stay st₃ r₂)) (part_stay st₄ r₃) ⟨_, Heap.get?_push_size _ rfl, rfl, rfl⟩ fun v d σ'' s'' a b e f => hQ v d σ'' s'' a ((((st₁.trans st₂).trans st₃).trans st₄).trans b) e f

theorem L_range {N : Nms} {x : Str} {gp p : Pos} {e : PE} {v : VT} (hh : A.handled = none) (eo : EnvOk nm vs env) (hx : env.kindOf x = some .globalImplicit) (hd : (x == ("__debug__" : Str)) = false) (hv : c.glob x = some (.type "range")) (h : SndV c A nm vs env v (emb N e)) :
    SndI c A nm vs env (fun ρ σ Φ => v.v ρ σ fun d σ' => match d with | .int n => n ≤ small ∧ -small ≤ n ∧ Φ .none (rangeD n) σ' | _ => False) (.Call (.Name x gp) [emb N e] [] p) := by
  intro ρ σ Φ ha P s g Q E hQ
  rw [arm_eval_Call_Name']
  refine wpAny_bind (R_glob eo hx hd hv g ?_)
  refine PyProof.Rows.callWith_type1 ?_ (emb_star N e _ env) rfl
  refine args_cons (h ρ σ _ ha P s g _ _ fun u d σ₁ s₁ hS st₁ ok₁ r₁ => ?_) (emb_star N e _ env)
  have g₁ := g.next st₁ ok₁
  cases d <;> simp only at hS
  rename_i n
  simp only [Rep] at r₁
  obtain ⟨t, rfl⟩ := r₁
  refine args_nil (call_range_1 ?_)
  have kp := keeps_push s₁ ({ cls := .type "range", data := .fields #[.int 0 s₁.toks, .int n t, .int 1 (s₁.toks + 1)] } : Obj) (s₁.toks + 1 + 1)
  exact hQ _ _ _ σ₁ _ hS.2.2 (st₁.trans (Step.of_keeps kp)) (g₁.st.keeps (keeps_heap kp)) (itv_range hh (IsRange.new _ _ _ _ _ _ _) hS.1 hS.2.1)

theorem L_of {v : VT} {e : Expr} (hh : A.handled = none) (h : SndV c A nm vs env v e) : SndI c A nm vs env (fun ρ σ Φ => v.v ρ σ fun d σ' => ∃ ds, asL σ' d = some ds ∧ Φ d ds σ') e := by
  intro ρ σ Φ ha P s g Q E hQ
  refine h ρ σ _ ha P s g _ _ fun u d σ₁ s₁ hS st₁ ok₁ r₁ => ?_
  obtain ⟨ds, e1, h1⟩ := hS
  exact hQ u d ds σ₁ s₁ h1 st₁ ok₁ (itv_seq hh ok₁ r₁ e1)
end
end Mine

open PySem PySem.W PyProof.Rows
set_option Elab.async false
set_option linter.unusedVariables false
namespace Mine
section
variable {c : Cx} {A : Around} {nm : Nat → Str} {vs : List Nat} {env : Env}

theorem Good.big {ρ σ P s} (g : Good c nm vs env ρ σ P s) : sysModules < s.heap.objs.size := by
  obtain ⟨o, es, ep, ho, _⟩ := c.hg
  have := Heap.lt_size (g.base _ _ ho)
  have h3 : mainGlobals = 3 := rfl
  have h1 : sysModules = 1 := rfl
  rw [h3] at this
  rw [h1]
  exact Nat.lt_trans (by decide) this

theorem L_attr {N : Nms} {C : Nat} {name : Str} {p : Pos} {o : PE} {x : VT} (hb : baseOk o = true) (ho : AttrOk c.K C name) (hx : SndV c A nm vs env x (emb N o)) :
    SndV c A nm vs env (.of fun ρ σ Φ => x.v ρ σ fun d σ' => attrS C name d σ' Φ) (.Attribute (emb N o) name p) := by
  intro ρ σ Φ ha P s g Q E hQ
  rw [arm_eval_Attribute, emb_base N o _ _ _ hb]
  refine wpAny_bind (hx ρ σ _ ha P s g _ _ fun v d σ₁ s₁ h₁ st₁ ok₁ r₁ => ?_)
  have g₁ := g.next st₁ ok₁
  refine wpAny_bind (wpAny_standAt ?_)
  obtain ⟨a, dx, fs, y, rfl, hm, hg, h⟩ := h₁
  simp only [Rep] at r₁
  subst r₁
  refine wpAny_bind (wpAny_holding (attr_sound g₁ ho hm hg h fun v d σ'' s'' a b e f => ?_))
  exact wpAny_bind (wpAny_letTemporaryGo (wpAny_pure (hQ v d σ'' s'' a (st₁.trans b) e f)))

theorem form_ok {N : Nms} {p : Pos} {args : List PE} (hn : args.length ≤ 5) : methodCallForm ((embL N args).length + ([] : List Keyword).length) (backTo p (starEach (embL N args) env)) (backToKw p (keywordEach [] env)) = true := by
  have h1 := plain_star (env := env) (pos := p) N args
  have hl : ∀ l : List PE, (embL N l).length = l.length := fun l => by
    induction l with
    | nil => rfl
    | cons e r ih => simp [embL, ih]
  unfold methodCallForm
  have h2 : (backTo p (starEach (embL N args) env)).all (fun x => !x.1) = true := by
    rw [List.all_eq_true]
    intro x hx
    rw [List.any_eq_false] at h1
    simpa using h1 x hx
  rw [h2, hl]
  show (true && true && decide (args.length + 0 + 0 < 30)) = true
  simp; omega

theorem L_meth {N : Nms} {C n : Nat} {name : Str} {ap p : Pos} {o : PE} {args : List PE} {x : VT} {xs : List VT} {f : Addr} {S : Spec} (hA : Room n A) (hl : (ap.endLine == p.line) = true) (hb : baseOk o = true) (hn : args.length ≤ 5) (hm : MethOk c.K C name f) (V : Valid c n f S)
    (hx : SndV c A nm vs env x (emb N o)) (hy : SndL c A nm vs env xs (embL N args)) :
    SndV c A nm vs env (.of fun ρ σ Φ => x.v ρ σ fun d σ₁ => instS C name d σ₁ ∧ argsV xs ρ σ₁ fun ds σ₂ => S (d :: ds) σ₂ Φ) (.Call (.Attribute (emb N o) name ap) (embL N args) [] p) := by
  intro ρ σ Φ ha P s g Q E hQ
  rw [arm_eval_Call, emb_base N o _ _ _ hb]
  refine wpAny_bind (hx ρ σ _ ha P s g _ _ fun v₁ d₁ σ₁ s₁ h₁ st₁ ok₁ r₁ => ?_)
  have g₁ := g.next st₁ ok₁
  refine wpAny_bind (wpAny_standAt ?_)
  obtain ⟨⟨a, dx, fs, rfl, hs, hg⟩, h₁⟩ := h₁
  have r₁' := r₁
  simp only [Rep] at r₁
  subst r₁
  have hpos : methodCallPos true (emb N o) env ap p = pure p := by unfold methodCallPos; simp [hl]
  unfold methodCall
  rw [form_ok hn]
  refine wpAny_bind (wpAny_holding (method_sound g₁ hm hs hg ?_))
  refine wpAny_bind (wpAny_of_eq hpos ?_)
  have fin : ∀ us ds σ₂ s₂, S (.obj a :: ds) σ₂ Φ → Step noF σ₁ σ₂ s₁ s₂ → StoreOk σ₂ P s₂.heap → RepL (nd σ₂ P) s₂.heap ds us → wpAny c.M A (call (.ref f) ([.ref a] ++ us)) Q E s₂ := by
    intro us ds σ₂ s₂ hS st₂ ok₂ r₂
    have g₂ := g₁.next st₂ ok₂
    refine wpAny_call ?_
    exact V.call A hA (.obj a :: ds) σ₂ _ hS P s₂ (.ref a :: us) g₂.base ok₂ (fun a ha => (g₂.own a ha).1) g₂.prot (RepL.cons (by simp [Rep]) r₂) Q E fun v d σ'' s'' a b e f => hQ v d σ'' s'' a ((st₁.trans st₂).trans b) e f
  cases args with
  | nil =>
    simp only [embL_nil, embL_cons] at hy ⊢
    cases hy
    exact callWith_K0 (kin g₁) hm.keep (fin [] [] σ₁ s₁ h₁ (Step.refl _ _ _) ok₁ RepL.nil)
  | cons e r =>
    have h0 := L_args (pos := p) (e :: r) xs hy ρ σ₁ _ h₁ P s₁ g₁
    have pl := plain_star (env := env) (pos := p) N r
    simp only [embL_nil, embL_cons] at h0 ⊢
    refine callWith_K (kin g₁) hm.keep (h0 _ _ fun us ds σ₂ s₂ hS st₂ ok₂ r₂ => ⟨kin (g₁.next st₂ ok₂), fin us ds σ₂ s₂ hS st₂ ok₂ r₂⟩) (emb_star N e _ env) pl

theorem L_lm {N : Nms} {k : LM} {ap p : Pos} {o : PE} {args : List PE} {x : VT} {xs : List VT} (hl : (ap.endLine == p.line) = true) (hb : baseOk o = true) (hn : args.length ≤ 5)
    (hx : SndV c A nm vs env x (emb N o)) (hy : SndL c A nm vs env xs (embL N args)) :
    SndV c A nm vs env (.of fun ρ σ Φ => x.v ρ σ fun d σ₁ => lmOk k d σ₁ ∧ argsV xs ρ σ₁ fun ds σ₂ => lmS k d ds σ₂ Φ) (.Call (.Attribute (emb N o) (Str.ofString k.name) ap) (embL N args) [] p) := by
  intro ρ σ Φ ha P s g Q E hQ
  rw [arm_eval_Call, emb_base N o _ _ _ hb]
  refine wpAny_bind (hx ρ σ _ ha P s g _ _ fun v₁ d₁ σ₁ s₁ h₁ st₁ ok₁ r₁ => ?_)
  have g₁ := g.next st₁ ok₁
  refine wpAny_bind (wpAny_standAt ?_)
  obtain ⟨hk, h₁⟩ := h₁
  have hpos : methodCallPos true (emb N o) env ap p = pure p := by unfold methodCallPos; simp [hl]
  unfold methodCall
  rw [form_ok hn]
  refine wpAny_bind (wpAny_holding (lm_method g₁ hk r₁ ?_))
  refine wpAny_bind (wpAny_of_eq hpos ?_)
  cases args with
  | nil =>
    simp only [embL_nil, embL_cons] at hy
    cases hy
    simp only [argsV] at h₁
    cases k <;> exact h₁.elim
  | cons e r =>
    have h0 := L_args (pos := p) (e :: r) xs hy ρ σ₁ _ h₁ P s₁ g₁
    have pl := plain_star (env := env) (pos := p) N (e :: r)
    simp only [embL_nil, embL_cons] at h0 pl ⊢
    rw [emb_star] at h0 pl ⊢
    refine Calls.callWith_builtin pl (Calls.evalArgs_plain ?_)
    refine h0 _ _ fun us ds σ₂ s₂ hS st₂ ok₂ r₂ => ?_
    exact lm_sound (g₁.next st₂ ok₂) hS (Rep.stay (st₂.stay P) _ _ r₁) r₂ fun v d σ'' s'' a b e f => hQ v d σ'' s'' a ((st₁.trans st₂).trans b) e f

theorem L_lrange {N : Nms} {m : Bool} {x y : Str} {gp gp' p' p : Pos} {e : PE} {v : VT} (hh : A.handled = none) (eo : EnvOk nm vs env) (hx : env.kindOf x = some .globalImplicit) (hd : (x == ("__debug__" : Str)) = false) (hv : c.glob x = some (.type "list"))
    (hy : env.kindOf y = some .globalImplicit) (hd' : (y == ("__debug__" : Str)) = false) (hv' : c.glob y = some (.type "range")) (h : SndV c A nm vs env v (emb N e)) :
    SndV c A nm vs env (.of fun ρ σ Φ => v.v ρ σ fun d σ' => match d with | .int n => n ≤ small ∧ -small ≤ n ∧ mkS m (rangeD n) σ' Φ | _ => False) (.Call (.Name x gp) [.Call (.Name y gp') [emb N e] [] p'] [] p) := by
  intro ρ σ Φ ha P s g Q E hQ
  rw [arm_eval_Call_Name']
  refine wpAny_bind (R_glob eo hx hd hv g ?_)
  refine PyProof.Rows.callWith_type1 ?_ rfl rfl
  refine args_cons ?_ rfl
  rw [arm_eval_Call_Name']
  refine wpAny_bind (R_glob eo hy hd' hv' g ?_)
  refine PyProof.Rows.callWith_type1 ?_ (emb_star N e _ env) rfl
  refine args_cons (h ρ σ _ ha P s g _ _ fun u d σ₁ s₁ hS st₁ ok₁ r₁ => ?_) (emb_star N e _ env)
  have g₁ := g.next st₁ ok₁
  cases d <;> simp only at hS
  rename_i n
  obtain ⟨h1, h2, hS⟩ := hS
  simp only [Rep] at r₁
  obtain ⟨t, rfl⟩ := r₁
  refine args_nil (call_range_1 ?_)
  refine args_nil ?_
  unfold small at h1 h2
  have kp := keeps_push s₁ ({ cls := .type "range", data := .fields #[.int 0 s₁.toks, .int n t, .int 1 (s₁.toks + 1)] } : Obj) (s₁.toks + 1 + 1)
  have g₂ := g₁.next (Step.of_keeps kp) (g₁.st.keeps (keeps_heap kp))
  have e1 : Builtin.Range.rangeSize 0 n 1 = (n.toNat : Int) := by rw [rangeSize_one]; split <;> omega
  refine call_list_range hh (IsRange.new _ _ _ _ _ _ _) (small_one (by omega) (by omega) (by omega) (by omega)) e1 (by omega) fun h' tk acc c' hk hD hacc => ?_
  have hrep : RepL (nd σ₁ P) ({ s₁ with heap := s₁.heap.push ({ cls := .type "range", data := .fields #[.int 0 s₁.toks, .int n t, .int 1 (s₁.toks + 1)] } : Obj), toks := s₁.toks + 1 + 1 } : Shared).heap (rangeD n) acc.toList := by
    have hI : IntsAre acc.toList ((List.range n.toNat).map fun (i : Nat) => (i : Int)) := by
      have key : ∀ (l : List Value) (k : Nat), (∀ (i : Nat) v, l[i]? = some v → ∃ t, v = .int (0 + ((k + i : Nat) : Int) * 1) t) → IntsAre l ((List.range' k l.length).map fun (i : Nat) => (i : Int)) := by
        intro l
        induction l with
        | nil => intro k _; exact .nil
        | cons v l ih =>
          intro k hl
          obtain ⟨t, rfl⟩ := hl 0 v rfl
          rw [List.length_cons, List.range'_succ, List.map_cons]
          have e2 : (0 + ((k + 0 : Nat) : Int) * 1) = (k : Int) := by omega
          rw [e2]
          refine .cons _ _ (ih (k + 1) fun i v e => ?_)
          obtain ⟨t, e'⟩ := hl (i + 1) v (by simpa using e)
          exact ⟨t, by rw [e']; congr 1; omega⟩
      have := key acc.toList 0 fun i v e => by
        obtain ⟨t, e'⟩ := hacc.2 i v (by simpa using e)
        exact ⟨t, by rw [e', Nat.zero_add]⟩
      rwa [Array.length_toList, hacc.1, ← List.range_eq_range'] at this
    have := repL_of_ints (N := nd σ₁ P) (h := ({ s₁ with heap := s₁.heap.push ({ cls := .type "range", data := .fields #[.int 0 s₁.toks, .int n t, .int 1 (s₁.toks + 1)] } : Obj), toks := s₁.toks + 1 + 1 } : Shared).heap) hI
    rw [List.map_map] at this
    exact this
  exact fin_list g₂ hS (fun v d σ'' s'' a b e f => hQ v d σ'' s'' a ((st₁.trans (Step.of_keeps kp)).trans b) e f) ⟨h', tk, rfl, hk⟩ (get?_size_none _) (us := acc.toList) ⟨c', by rw [Array.toArray_toList]; exact hD⟩ hrep
end
end Mine

open PySem PySem.W PyProof.Rows
set_option Elab.async false
set_option linter.unusedVariables false
namespace Mine

theorem rangeD2_get {x y : Int} {k : Nat} {d : D} (h : (rangeD2 x y)[k]? = some d) : d = .int (x + k) ∧ (k : Int) < y - x := by
  unfold rangeD2 at h
  rw [List.getElem?_map] at h
  cases e : (List.range (y - x).toNat)[k]? with
  | none => rw [e] at h; cases h
  | some j =>
    rw [e] at h
    cases h
    obtain ⟨h1, h2⟩ := List.getElem?_eq_some_iff.mp e
    simp only [List.length_range] at h1
    simp only [List.getElem_range] at h2
    subst h2
    exact ⟨rfl, by omega⟩
theorem rangeD2_length (x y : Int) : (rangeD2 x y).length = (y - x).toNat := by simp [rangeD2]

theorem Turns.range2 {c : Cx} {A : Around} (hh : A.handled = none) (I : Addr) (x y : Int) : Turns c A I (rangeD2 x y) (fun _ _ _ => True) (fun k h => IsRangeIter h I (x + (k : Int)) (((y - x).toNat : Int) - k) 1) where
  mv := fun k h h' x k' => k' _ x
  alive := fun k h x => ⟨_, _, x, rfl⟩
  item := fun k d s σ P Q E hd it _ hQ => by
    obtain ⟨rfl, hk⟩ := rangeD2_get hd
    refine wpAny_pyNext_range_item it (by omega) fun h' hit' hs' => hQ _ h' _ ?_ hs' rep_int
    have e1 : x + ((k + 1 : Nat) : Int) = x + (k : Int) + 1 := by omega
    have e2 : ((y - x).toNat : Int) - ((k + 1 : Nat) : Int) = ((y - x).toNat : Int) - k - 1 := by omega
    rw [e1, e2]; exact hit'
  done := fun s σ P Q E it _ hQ => by
    rw [rangeD2_length] at it
    exact wpAny_pyNext_range_end hh it (by omega) fun h' he => hQ h' s.toks he
  self := fun k s σ P Q E it _ hQ => by
    refine (Walks.range (prog := c.prog) (w := c.w) hh I x 1 (y - x).toNat).self k s Q E ?_ hQ
    show IsRangeIter s.heap I (x + (k : Nat) * 1) (((y - x).toNat : Int) - (k : Nat)) 1
    rw [Int.mul_one]; exact it

section
variable {c : Cx} {A : Around} {nm : Nat → Str} {vs : List Nat} {env : Env}

theorem itv_range2 {σ : Store} {P : Addr → Prop} {s : Shared} {r : Addr} {x y : Int} {t u w : Tok} (hh : A.handled = none) (hr : IsRange s.heap r x y 1 t u w) (h1 : -small ≤ x) (h2 : x ≤ small) (h3 : -small ≤ y) (h4 : y ≤ small) : ItV c A .none (rangeD2 x y) σ P (.ref r) s := by
  unfold small at h1 h2 h3 h4
  refine ⟨.none, rep_none, trivial, fun Q E hQ => wpAny_pyIter_range hr (small_one (by omega) (by omega) (by omega) (by omega)) (hQ s.heap.objs.size _ _ _ (get?_size_none _) (keeps_push' s _) (Turns.range2 hh _ x y) ?_ fun _ _ _ _ _ _ => trivial)⟩
  show IsRangeIter _ _ (x + ((0 : Nat) : Int)) (((y - x).toNat : Int) - ((0 : Nat) : Int)) 1
  have e : Builtin.Range.rangeSize x y 1 = ((y - x).toNat : Int) - ((0 : Nat) : Int) := by rw [rangeSize_one]; split <;> omega
  rw [← e, show x + ((0 : Nat) : Int) = x by omega]
  exact Heap.get?_push_size _ rfl

theorem L_range2 {N : Nms} {g : Str} {gp p : Pos} {a b : PE} {v w : VT} (hh : A.handled = none) (eo : EnvOk nm vs env) (hx : env.kindOf g = some .globalImplicit) (hd : (g == ("__debug__" : Str)) = false) (hv : c.glob g = some (.type "range")) (ha : SndV c A nm vs env v (emb N a)) (hb : SndV c A nm vs env w (emb N b)) :
    SndI c A nm vs env (fun ρ σ Φ => v.v ρ σ fun d σ₁ => w.v ρ σ₁ fun e σ₂ => match d, e with | .int x, .int y => -small ≤ x ∧ x ≤ small ∧ -small ≤ y ∧ y ≤ small ∧ Φ .none (rangeD2 x y) σ₂ | _, _ => False) (.Call (.Name g gp) [emb N a, emb N b] [] p) := by
  intro ρ σ Φ hh' P s g Q E hQ
  rw [arm_eval_Call_Name']
  refine wpAny_bind (R_glob eo hx hd hv g ?_)
  refine PyProof.Rows.callWith_type1 ?_ (emb_star N a _ env) (by rw [emb_star]; rfl)
  refine args_cons (ha ρ σ _ hh' P s g _ _ fun u d σ₁ s₁ hS st₁ ok₁ r₁ => ?_) (emb_star N a _ env)
  have g₁ := g.next st₁ ok₁
  refine args_cons (hb ρ σ₁ _ hS P s₁ g₁ _ _ fun u' e σ₂ s₂ hT st₂ ok₂ r₂ => ?_) (emb_star N b _ env)
  have g₂ := g₁.next st₂ ok₂
  replace r₁ := Rep.stay (st₂.stay P) _ _ r₁
  clear hS
  split at hT
  · rename_i x y
    simp only [Rep] at r₁ r₂
    obtain ⟨t, rfl⟩ := r₁
    obtain ⟨t', rfl⟩ := r₂
    refine args_nil (call_range_2 ?_)
    have kp := keeps_push s₂ ({ cls := .type "range", data := .fields #[.int x t, .int y t', .int 1 s₂.toks] } : Obj) (s₂.toks + 1)
    exact hQ _ _ _ σ₂ _ hT.2.2.2.2 ((st₁.trans st₂).trans (Step.of_keeps kp)) (g₂.st.keeps (keeps_heap kp)) (itv_range2 hh (IsRange.new _ _ _ _ _ _ _) hT.1 hT.2.1 hT.2.2.1 hT.2.2.2.1)
  · exact hT.elim

theorem Room.make {n : Nat} (h : Room (n + 1) A) (C : Addr) (us : List Value) : Room n (A.under (.builtin "type.__call__" ⟨.ref C :: us, []⟩)) := by
  obtain ⟨a, b, d⟩ := h
  refine ⟨a, ?_, ?_⟩
  · show A.depth + 1 + n ≤ 900; omega
  · show A.units + 1 + 10 * n + 500 ≤ 9000; omega

theorem new_sound {n : Nat} {C f : Addr} {S : Spec} {ds : List D} {us : List Value} {ρ σ P s} {Q E : Value → Shared → Prop} {Φ : D → Store → Prop} (hA : Room (n + 1) A) (g : Good c nm vs env ρ σ P s) (hn : NewOk c.K C f) (V : Valid c n f S) (h : newS C S ds σ Φ) (hr : RepL (nd σ P) s.heap ds us)
    (hQ : ∀ v d σ' s', Φ d σ' → Step noF σ σ' s s' → StoreOk σ' P s'.heap → Rep (nd σ' P) s'.heap d v → Q v s') : wpAny c.M A (call (.ref C) us) Q E s := by
  have X := kin g
  refine wpAny_call ?_
  have hne : s.heap.objs.size ≠ s.heap.objs.size + 1 := Nat.ne_of_lt (Nat.lt_succ_self _)
  have hn1 : s.heap.get? (s.heap.objs.size + 1) = none := by
    cases e : s.heap.get? (s.heap.objs.size + 1) with
    | none => rfl
    | some o => exact absurd (Heap.lt_size e) (Nat.not_lt.mpr (Nat.le_succ _))
  have kp : Keeps s { s with heap := (s.heap.push emptyDict).push (instObj C s.heap.objs.size) } := ⟨_, s.toks, rfl, fun b o e => Heap.get?_push_of_some _ (Heap.get?_push_of_some _ e)⟩
  have hsz : (s.heap.push emptyDict).objs.size = s.heap.objs.size + 1 := Heap.size_push ..
  have o1 : ((s.heap.push emptyDict).push (instObj C s.heap.objs.size)).get? (s.heap.objs.size + 1) = some (instObj C s.heap.objs.size) := by
    rw [← hsz]; exact Heap.get?_push_size _ rfl
  have o2 : ((s.heap.push emptyDict).push (instObj C s.heap.objs.size)).get? s.heap.objs.size = some emptyDict := Heap.get?_push_of_some _ (Heap.get?_push_size _ rfl)
  obtain ⟨st, ok⟩ := alloc_gen g (mo := .inst C s.heap.objs.size []) (a := s.heap.objs.size + 1) kp hn1 (fun x ⟨C', fs, e⟩ => by cases e; exact ⟨get?_size_none _, hne⟩) fun sty =>
    ⟨0, [], [], o1, o2, by simp [EntS], by simp, RepL.nil, List.nodup_nil, hne⟩
  have g₁ := g.next st ok
  have hS := h (s.heap.objs.size + 1) s.heap.objs.size (fresh_of_not_dom (g.not_dom hn1)) (fresh_of_not_dom (g.not_dom (get?_size_none _))) hne.symm
  have main := V.call (A.under (.builtin "type.__call__" ⟨.ref C :: us, []⟩)) (hA.make C us) (.obj (s.heap.objs.size + 1) :: ds) _ _ hS P _ (.ref (s.heap.objs.size + 1) :: us) g₁.base ok (fun a ha => (g₁.own a ha).1) g₁.prot (RepL.cons (by simp [Rep]) (RepL.stay (st.stay P) _ _ hr))
    (fun v s' => v = .none ∧ Q (.ref (s.heap.objs.size + 1)) s') E (fun v d σ' s' hd st' ok' hr' => by
      obtain ⟨rfl, hΦ⟩ := hd
      simp only [Rep] at hr'
      exact ⟨hr', hQ _ (.obj _) σ' s' hΦ (st.trans st') ok' (by simp [Rep])⟩)
  obtain ⟨hp, gs, dr, tk, os⟩ := s
  refine make_core (makes_of X hn.makes) (looks_findIn X hn.init) (fun self => bind_fn X self (beq_iff_eq.mp hn.isf)) (.inl (by rfl)) (codeAny_mono main fun r s' hr => ?_)
  unfold InitBack
  split at hr <;> first | exact hr | exact hr.elim

theorem L_new {N : Nms} {n C : Nat} {x : Str} {gp p : Pos} {es : List PE} {xs : List VT} {f : Addr} {S : Spec} (hA : Room (n + 1) A) (eo : EnvOk nm vs env) (hx : env.kindOf x = some .globalImplicit) (hd : (x == ("__debug__" : Str)) = false) (hv : c.glob x = some (.ref C)) (hn : NewOk c.K C f) (V : Valid c n f S)
    (h : SndL c A nm vs env xs (embL N es)) : SndV c A nm vs env (.of fun ρ σ Φ => argsV xs ρ σ fun ds σ₁ => newS C S ds σ₁ Φ) (.Call (.Name x gp) (embL N es) [] p) := by
  intro ρ σ Φ ha P s g Q E hQ
  rw [arm_eval_Call_Name']
  refine wpAny_bind (R_glob eo hx hd hv g ?_)
  cases es with
  | nil =>
    simp only [embL_nil, embL_cons] at h ⊢
    cases h
    exact callWith_K0 (kin g) hn.keep (new_sound hA g hn V ha RepL.nil hQ)
  | cons e r =>
    have h0 := L_args (pos := p) (e :: r) xs h ρ σ _ ha P s g
    have pl := plain_star (env := env) (pos := p) N r
    simp only [embL_nil, embL_cons] at h0 ⊢
    exact callWith_K (kin g) hn.keep (h0 _ _ fun us ds σ₁ s₁ hS st₁ ok₁ r₁ => ⟨kin (g.next st₁ ok₁), new_sound hA (g.next st₁ ok₁) hn V hS r₁ fun v d σ'' s'' a b e f => hQ v d σ'' s'' a (st₁.trans b) e f⟩) (emb_star N e _ env) pl

theorem R_sattr {N : Nms} {C : Nat} {name : Str} {ap p : Pos} {o e : PE} {x y : VT} (hs : ∀ l tg, swapsWith (emb N e) (some tg) l env = pure false) (ho : SetOk c.K C name) (hx : SndV c A nm vs env x (emb N o)) (hy : SndV c A nm vs env y (emb N e)) {ρ : PEnv} {σ : Store} {Φ : Res → Prop}
    (h : y.v ρ σ fun d σ₁ => x.v ρ σ₁ fun z σ₂ => setS C name z d σ₂ fun σ₃ => Φ (.next ρ σ₃)) : WPs c A nm vs env ρ σ (exec (.Assign [.Attribute (emb N o) name ap] (emb N e) p) env) Φ := by
  intro P s g Q E hQ
  refine plainObj_wpAny_Assign_Attribute (hy ρ σ _ h P s g _ _ fun v₁ d₁ σ₁ s₁ h₁ st₁ ok₁ r₁ => ?_) (hs _ _)
  have g₁ := g.next st₁ ok₁
  refine hx ρ σ₁ _ h₁ P s₁ g₁ _ _ fun v₂ d₂ σ₂ s₂ h₂ st₂ ok₂ r₂ => ?_
  have g₂ := g₁.next st₂ ok₂
  obtain ⟨a, dx, fs, rfl, hm, hl, h₂⟩ := h₂
  simp only [Rep] at r₂
  subst r₂
  refine setattr_sound g₂ ho hm hl (Rep.stay (st₂.stay P) _ _ r₁) fun s₃ st₃ ok₃ => ?_
  exact hQ .next s₃ _ h₂ (((st₁.trans st₂).trans st₃).weak fun _ h => h.elim) ⟨rfl, g₂.next st₃ ok₃⟩

end
end Mine

open PySem PyProof.Rows
set_option Elab.async false
set_option linter.unusedVariables false
namespace Mine

theorem and2 {a b : Bool} (h : (a && b) = true) : a = true ∧ b = true := Bool.and_eq_true_iff.mp h
theorem and3 {a b c : Bool} (h : (a && b && c) = true) : (a = true ∧ b = true) ∧ c = true := ⟨and2 (and2 h).1, (and2 h).2⟩
theorem and4 {a b c d : Bool} (h : (a && b && c && d) = true) : ((a = true ∧ b = true) ∧ c = true) ∧ d = true := ⟨and3 (and2 h).1, (and2 h).2⟩
theorem and5 {a b c d e : Bool} (h : (a && b && c && d && e) = true) : (((a = true ∧ b = true) ∧ c = true) ∧ d = true) ∧ e = true := ⟨and4 (and2 h).1, (and2 h).2⟩
theorem and6 {a b c d e f : Bool} (h : (a && b && c && d && e && f) = true) : ((((a = true ∧ b = true) ∧ c = true) ∧ d = true) ∧ e = true) ∧ f = true := ⟨and5 (and2 h).1, (and2 h).2⟩

theorem gOk_ok {t : Tb} {names : List (Str × NameKind)} {env : Env} {g : Nat} (h : t.gOk names g = true) (hn : Nm env names) : env.kindOf (t.N.gn g) = some .globalImplicit ∧ (t.N.gn g == ("__debug__" : Str)) = false ∧ g ∈ t.gl := by
  unfold Tb.gOk at h
  simp only [Bool.and_eq_true, Bool.not_eq_true'] at h
  exact ⟨hn.glob _ (by simpa using h.1.1), h.1.2, by simpa using h.2⟩

section
variable {c : Cx} {n : Nat} {A : Around} {t : Tb} {S : Nat → Spec} (hA : Room n A) (G : GT c n t S)
include hA G

mutual
theorem soundE : ∀ (e : PE) (names : List (Str × NameKind)) (vs : List Nat) (env : Env), EnvOk t.N.nm vs env → Nm env names → wf t names vs e = true →
    SndV c A t.N.nm vs env (vc S e) (emb t.N e) ∧ SndT c A t.N.nm vs env (vc S e) (emb t.N e)
  | .var i p, names, vs, env, eo, hn, hw => by
    have hv : SndV c A t.N.nm vs env (.of fun ρ σ Φ => match ρ.at i with | some d => Φ d σ | Option.none => False) (.Name (t.N.nm i) p) := by
      intro ρ σ Φ h
      simp only [VT.of] at h
      cases e : ρ.at i with
      | none => rw [e] at h; exact h.elim
      | some d => rw [e] at h; exact R_var eo e h
    exact ⟨hv, sndT_of hv fun _ => rfl⟩
  | .cint i p, names, vs, env, eo, hn, hw => by
    have hv : SndV c A t.N.nm vs env (.of fun _ σ Φ => Φ (.int i) σ) (.Constant (.int i) 0 p) := fun ρ σ Φ h => R_int h
    exact ⟨hv, sndT_of hv fun _ => rfl⟩
  | .cnone p, names, vs, env, eo, hn, hw => by
    have hv : SndV c A t.N.nm vs env (.of fun _ σ Φ => Φ .none σ) (.Constant .none 0 p) := fun ρ σ Φ h => R_none h
    exact ⟨hv, sndT_of hv fun _ => rfl⟩
  | .cbool b p, names, vs, env, eo, hn, hw => by
    have hv : SndV c A t.N.nm vs env (.of fun _ σ Φ => Φ (.bool b) σ) (.Constant (.bool b) 0 p) := fun ρ σ Φ h => R_bool h
    exact ⟨hv, sndT_of hv fun _ => rfl⟩
  | .bin op l r p, names, vs, env, eo, hn, hw => by
    have hw := and2 hw
    have hv := L_bin (op := op) (p := p) (soundE l names vs env eo hn hw.1).1 (soundE r names vs env eo hn hw.2).1
    exact ⟨hv, sndT_of hv fun _ => rfl⟩
  | .neg e p, names, vs, env, eo, hn, hw => by
    have hv := L_neg (p := p) (soundE e names vs env eo hn hw).1
    exact ⟨hv, sndT_of hv fun _ => rfl⟩
  | .not e p, names, vs, env, eo, hn, hw => by
    exact L_not (soundE e names vs env eo hn hw).1 (soundE e names vs env eo hn hw).2
  | .bop op es p, names, vs, env, eo, hn, hw => by
    have hl := soundL es names vs env eo hn hw
    exact ⟨fun ρ σ Φ h => L_bopV hl ρ σ Φ h, fun ρ σ Φ h => L_bopT hl ρ σ Φ h⟩
  | .cmp op l r p, names, vs, env, eo, hn, hw => by
    have hw := and2 hw
    exact L_cmp (units_ok hA) (emb_marks _ _ _) (soundE l names vs env eo hn hw.1).1 (soundE r names vs env eo hn hw.2).1
  | .cmp2 o₁ o₂ a b d p, names, vs, env, eo, hn, hw => by
    have hw := and3 hw
    exact L_cmp2 (units_ok hA) (emb_marks _ _ _) (soundE a names vs env eo hn hw.1.1).1 (soundE b names vs env eo hn hw.1.2).1 (soundE d names vs env eo hn hw.2).1
  | .call g gp args p, names, vs, env, eo, hn, hw => by
    have hw := and4 hw
    obtain ⟨h1, h2, h3⟩ := gOk_ok hw.1.1.1 hn
    obtain ⟨f, hf, V⟩ := G.fn g (by simpa using hw.1.1.2)
    have hv := L_call (gp := gp) (p := p) hA eo h1 h2 (by rw [G.glob g h3, hf]) V (by have := hw.1.2; intro q; rw [q] at this; simp at this) (soundL args names vs env eo hn hw.2)
    exact ⟨hv, sndT_of hv fun _ => rfl⟩
  | .bi b m g gp args p, names, vs, env, eo, hn, hw => by
    have hw := and4 hw
    obtain ⟨h1, h2, h3⟩ := gOk_ok hw.1.1.1 hn
    have hv := L_bi (m := m) (gp := gp) (p := p) (b := b) hA.1 eo h1 h2 (by rw [G.glob g h3]; congr 1; simpa using hw.1.1.2) (by have := hw.1.2; intro q; rw [q] at this; simp at this) (soundL args names vs env eo hn hw.2)
    exact ⟨hv, sndT_of hv fun _ => rfl⟩
  | .isi e ty g gp gt tp p, names, vs, env, eo, hn, hw => by
    have hw := and5 hw
    obtain ⟨h1, h2, h3⟩ := gOk_ok hw.1.1.1.1 hn
    obtain ⟨k1, k2, k3⟩ := gOk_ok hw.1.1.2 hn
    have hv := L_isi (gp := gp) (tp := tp) (p := p) (ty := ty) eo h1 h2 (by rw [G.glob g h3]; congr 1; simpa using hw.1.1.1.2) k1 k2 (by rw [G.glob gt k3]; congr 1; simpa using hw.1.2) (soundE e names vs env eo hn hw.2).1
    exact ⟨hv, sndT_of hv fun _ => rfl⟩
  | .sub o i p, names, vs, env, eo, hn, hw => by
    have hw := and2 hw
    have hv := L_sub (p := p) (emb_sub t.N i) (soundE o names vs env eo hn hw.1).1 (soundE i names vs env eo hn hw.2).1
    exact ⟨hv, sndT_of hv fun _ => rfl⟩
  | .slc m o lo hi sp p, names, vs, env, eo, hn, hw => by
    have hw := and3 hw
    have hv := L_slc (m := m) (sp := sp) (p := p) (soundE o names vs env eo hn hw.1.1).1 (soundO lo names vs env eo hn hw.1.2) (soundO hi names vs env eo hn hw.2)
    exact ⟨hv, sndT_of hv fun _ => rfl⟩
  | .list m es p, names, vs, env, eo, hn, hw => by
    have hv := L_list (m := m) (p := p) (soundL es names vs env eo hn hw)
    exact ⟨hv, sndT_of hv fun _ => rfl⟩
  | .tup es k p, names, vs, env, eo, hn, hw => by
    have hv := L_tup (k := k) (p := p) (soundL es names vs env eo hn hw)
    exact ⟨hv, sndT_of hv fun _ => rfl⟩
  | .mmd mx g gp e cp kp p, names, vs, env, eo, hn, hw => by
    have hw := and3 hw
    obtain ⟨h1, h2, h3⟩ := gOk_ok hw.1.1 hn
    have hv := L_mmd (mx := mx) (gp := gp) (cp := cp) (kp := kp) (p := p) hA.1 eo h1 h2 (by rw [G.glob g h3]; congr 1; simpa using hw.1.2) (soundE e names vs env eo hn hw.2).1
    exact ⟨hv, sndT_of hv fun _ => rfl⟩
  | .sset g gp g' gp' e p' p, names, vs, env, eo, hn, hw => by
    have hw := and5 hw
    obtain ⟨h1, h2, h3⟩ := gOk_ok hw.1.1.1.1 hn
    obtain ⟨k1, k2, k3⟩ := gOk_ok hw.1.1.2 hn
    have hv := L_sset (gp := gp) (gp' := gp') (p' := p') (p := p) hA.1 eo h1 h2 (by rw [G.glob g h3]; congr 1; simpa using hw.1.1.1.2) k1 k2 (by rw [G.glob g' k3]; congr 1; simpa using hw.1.2) (soundE e names vs env eo hn hw.2).1
    exact ⟨hv, sndT_of hv fun _ => rfl⟩
  | .app o ap e p, names, vs, env, eo, hn, hw => by
    have hw := and4 hw
    have hv := L_app (p := p) hw.1.1.1 hw.1.1.2 (soundE o names vs env eo hn hw.1.2).1 (soundE e names vs env eo hn hw.2).1
    exact ⟨hv, sndT_of hv fun _ => rfl⟩
  | .attr C o name p, names, vs, env, eo, hn, hw => by
    have hw := and3 hw
    have hv := L_attr (p := p) hw.1.1 (G.attr (C, name) (by simpa using hw.1.2)) (soundE o names vs env eo hn hw.2).1
    exact ⟨hv, sndT_of hv fun _ => rfl⟩
  | .meth C g o name ap args p, names, vs, env, eo, hn, hw => by
    have hw := and6 hw
    obtain ⟨f, hf, V⟩ := G.meth (C, name, g) (by simpa using hw.1.1.1.2)
    have hv := L_meth hA hw.1.1.1.1.1 hw.1.1.1.1.2 (Nat.le_of_ble_eq_true hw.1.1.2) hf V (soundE o names vs env eo hn hw.1.2).1 (soundL args names vs env eo hn hw.2)
    exact ⟨hv, sndT_of hv fun _ => rfl⟩
  | .new C gi g gp args p, names, vs, env, eo, hn, hw => by
    have hw := and4 hw
    obtain ⟨h1, h2, h3⟩ := gOk_ok hw.1.1.1 hn
    obtain ⟨f, m, hm, hf, V⟩ := G.new (C, gi) (by simpa using hw.1.2)
    have hv := L_new (gp := gp) (p := p) (hA.le hm) eo h1 h2 (by rw [G.glob g h3]; congr 1; simpa using hw.1.1.2) hf V (soundL args names vs env eo hn hw.2)
    exact ⟨hv, sndT_of hv fun _ => rfl⟩
  | .lm k o ap args p, names, vs, env, eo, hn, hw => by
    have hw := and5 hw
    have hv := L_lm (k := k) hw.1.1.1.1 hw.1.1.1.2 (Nat.le_of_ble_eq_true hw.1.1.2) (soundE o names vs env eo hn hw.1.2).1 (soundL args names vs env eo hn hw.2)
    exact ⟨hv, sndT_of hv fun _ => rfl⟩
  | .lrange m g gp g' gp' e p' p, names, vs, env, eo, hn, hw => by
    have hw := and5 hw
    obtain ⟨h1, h2, h3⟩ := gOk_ok hw.1.1.1.1 hn
    obtain ⟨k1, k2, k3⟩ := gOk_ok hw.1.1.2 hn
    have hv := L_lrange (m := m) (gp := gp) (gp' := gp') (p' := p') (p := p) hA.1 eo h1 h2 (by rw [G.glob g h3]; congr 1; simpa using hw.1.1.1.2) k1 k2 (by rw [G.glob g' k3]; congr 1; simpa using hw.1.2) (soundE e names vs env eo hn hw.2).1
    exact ⟨hv, sndT_of hv fun _ => rfl⟩
  | .comp m elt x xp it ifs sc fr p, names, vs, env, eo, hn, hw => by
    have hw := and4 hw
    have co := compChk_ok hw.1.1.2 hn
    have hv : SndV c A t.N.nm vs env (.of fun ρ σ Φ => vcI S it ρ σ fun d ds σ₁ => ds.length ≤ small ∧
      compS (fun e σ' K => ifsT (vcL S ifs) ((ρ.only fr).put x e) σ' fun b σ'' => (b = true → (vc S elt).v ((ρ.only fr).put x e) σ'' fun r σ₃ => K (some r) σ₃) ∧ (b = false → K Option.none σ'')) (keepS d ds) ds σ₁ []
        fun out σ₂ => mkS m out σ₂ Φ) (.ListComp (emb t.N elt) [⟨.Name (t.N.nm x) xp, embI t.N it, embL t.N ifs, 0⟩] sc p) := fun ρ σ Φ h =>
      R_comp (embI_fold _ _ _) co eo (soundI it names vs env eo hn hw.1.1.1) (fun C => (soundE elt sc.names (x :: fr) _ (co.envOk eo C) (nm_block co _ C) hw.1.2).1) (fun C => soundL ifs sc.names (x :: fr) _ (co.envOk eo C) (nm_block co _ C) hw.2) h
    exact ⟨hv, sndT_of hv fun _ => rfl⟩
theorem soundL : ∀ (es : List PE) (names : List (Str × NameKind)) (vs : List Nat) (env : Env), EnvOk t.N.nm vs env → Nm env names → wfL t names vs es = true → SndL c A t.N.nm vs env (vcL S es) (embL t.N es)
  | [], names, vs, env, eo, hn, hw => .nil
  | e :: r, names, vs, env, eo, hn, hw => by
    have hw := and2 hw
    exact .cons (soundE e names vs env eo hn hw.1).1 (soundE e names vs env eo hn hw.1).2 (soundL r names vs env eo hn hw.2)
theorem soundO : ∀ (o : Option PE) (names : List (Str × NameKind)) (vs : List Nat) (env : Env), EnvOk t.N.nm vs env → Nm env names → wfO t names vs o = true → SndO c A t.N.nm vs env (vcO S o) (embO t.N o)
  | Option.none, names, vs, env, eo, hn, hw => by
    intro ρ σ Φ h P s g Q E hQ
    show wpAny c.M A (evalPart Option.none env) Q E s
    rw [evalPart_none]
    exact wpAny_pure (hQ _ _ σ s h (Step.refl _ _ _) g.st (.inl ⟨rfl, rfl⟩))
  | some e, names, vs, env, eo, hn, hw => by
    intro ρ σ Φ h P s g Q E hQ
    show wpAny c.M A (evalPart (some (emb t.N e)) env) Q E s
    rw [evalPart_some]
    exact (soundE e names vs env eo hn hw).1 ρ σ _ h P s g _ _ fun v d σ' s' hd st ok hr => hQ v (some d) σ' s' hd st ok (.inr ⟨d, rfl, hr⟩)
theorem soundI : ∀ (it : IT) (names : List (Str × NameKind)) (vs : List Nat) (env : Env), EnvOk t.N.nm vs env → Nm env names → wfI t names vs it = true → SndI c A t.N.nm vs env (vcI S it) (embI t.N it)
  | .of e, names, vs, env, eo, hn, hw => by
    have := L_of hA.1 (soundE e names vs env eo hn hw).1
    intro ρ σ Φ h
    exact this ρ σ Φ h
  | .range g gp e p, names, vs, env, eo, hn, hw => by
    have hw := and3 hw
    obtain ⟨h1, h2, h3⟩ := gOk_ok hw.1.1 hn
    have := L_range (gp := gp) (p := p) hA.1 eo h1 h2 (by rw [G.glob g h3]; congr 1; simpa using hw.1.2) (soundE e names vs env eo hn hw.2).1
    intro ρ σ Φ h
    exact this ρ σ Φ h
  | .range2 g gp a b p, names, vs, env, eo, hn, hw => by
    have hw := and4 hw
    obtain ⟨h1, h2, h3⟩ := gOk_ok hw.1.1.1 hn
    have := L_range2 (gp := gp) (p := p) hA.1 eo h1 h2 (by rw [G.glob g h3]; congr 1; simpa using hw.1.1.2) (soundE a names vs env eo hn hw.1.2).1 (soundE b names vs env eo hn hw.2).1
    intro ρ σ Φ h
    exact this ρ σ Φ h
end
end
end Mine

open PySem PyProof.Rows
set_option Elab.async false
set_option linter.unusedVariables false
namespace Mine

theorem swaps_no (N : Nms) (e : PE) (tg : Expr) (l : Nat) (env : Env) (h : ∀ m elt x xp it ifs sc fr p, e ≠ .comp m elt x xp it ifs sc fr p) : swapsWith (emb N e) (some tg) l env = pure false := by
  cases e <;> first | rfl | exact absurd rfl (h _ _ _ _ _ _ _ _ _)

theorem swaps_no' (N : Nms) (e : PE) (tg : Expr) (l : Nat) (env : Env) (h : isComp e = false) : swapsWith (emb N e) (some tg) l env = pure false :=
  swaps_no N e tg l env fun m elt x xp it ifs sc fr p q => by subst q; cases h

section
variable {c : Cx} {A : Around} {nm : Nat → Str} {vs : List Nat} {env : Env}

theorem R_assign {x : Nat} {xp p : Pos} {value : Expr} {ρ : PEnv} {σ : Store} {Φ : Res → Prop} (eo : EnvOk nm vs env) (hx : x ∈ vs) (hs : swapsWith value (some (.Name (nm x) xp)) p.line env = pure false)
    (h : WPv c A nm vs env ρ σ (eval value env) fun d σ' => Φ (.next (ρ.put x d) σ')) : WPs c A nm vs env ρ σ (exec (.Assign [.Name (nm x) xp] value p) env) Φ := by
  intro P s g Q E hQ
  refine wpAny_Assign_Name (h P s g _ _ fun v d σ₁ s₁ hd st₁ ok₁ r₁ => ?_) hs
  refine store_sound eo hx (g.next st₁ ok₁) r₁ fun s₂ st₂ g₂ => ?_
  exact hQ .next s₂ _ hd ((st₁.weak fun _ h => h.elim).trans st₂) ⟨rfl, g₂⟩

theorem R_while {test : Expr} {body : List Stmt} {p : Pos} {vt : VT} {bt : PEnv → Store → (Res → Prop) → Prop} (ht : SndT c A nm vs env vt test) (hb : ∀ ρ σ Φ, bt ρ σ Φ → WPs c A nm vs env ρ σ (execs body env) Φ) {ρ : PEnv} {σ : Store} {Φ : Res → Prop}
    {J : Nat → PEnv → Store → Prop} {n : Nat} (h0 : J n ρ σ)
    (h : ∀ n ρ σ, J n ρ σ → vt.t ρ σ fun c σ' => (c = true → bt ρ σ' fun r => match r with
        | .next ρ'' σ'' => ∃ m, m < n ∧ J m ρ'' σ''
        | .cont ρ'' σ'' => ∃ m, m < n ∧ J m ρ'' σ''
        | .brk ρ'' σ'' => Φ (.next ρ'' σ'')
        | .ret d σ'' => Φ (.ret d σ'')) ∧ (c = false → Φ (.next ρ σ'))) : WPs c A nm vs env ρ σ (exec (.While test body [] p) env) Φ := by
  intro P s g Q E hQ
  refine wpAny_While ?_
  refine codeAny_whileLoop (fun k s' => ∃ ρ' σ', J k ρ' σ' ∧ Good c nm vs env ρ' σ' P s' ∧ Step (FrA env) σ σ' s s') ?_ n ⟨ρ, σ, h0, g, Step.refl _ _ _⟩
  rintro k s' ⟨ρ', σ', hJ, g', st'⟩
  refine ht ρ' σ' _ (h k ρ' σ' hJ) P s' g' _ _ fun b σ₁ s₁ hbv st₁ ok₁ => ?_
  have g₁ := g'.next st₁ ok₁
  have st01 := st'.trans (st₁.weak (F' := FrA env) fun _ h => h.elim)
  cases b with
  | false =>
    simp only [Bool.false_eq_true, if_false]
    exact wpAny_execs_nil (hQ .next s₁ _ (hbv.2 rfl) st01 ⟨rfl, g₁⟩)
  | true =>
    simp only [if_true]
    refine hb ρ' σ₁ _ (hbv.1 rfl) P s₁ g₁ _ _ fun f s₂ r hr st₂ ro => ?_
    have st02 := st01.trans st₂
    cases r with
    | next ρ'' σ'' =>
      obtain ⟨rfl, g₂⟩ := ro
      obtain ⟨m, hm, hJm⟩ := hr
      exact ⟨m, hm, ρ'', σ'', hJm, g₂, st02⟩
    | cont ρ'' σ'' =>
      obtain ⟨rfl, g₂⟩ := ro
      obtain ⟨m, hm, hJm⟩ := hr
      exact ⟨m, hm, ρ'', σ'', hJm, g₂, st02⟩
    | brk ρ'' σ'' =>
      obtain ⟨rfl, g₂⟩ := ro
      exact hQ .next s₂ _ hr st02 ⟨rfl, g₂⟩
    | ret d σ'' =>
      obtain ⟨u, rfl, h1, h2⟩ := ro
      exact hQ (.ret u) s₂ _ hr st02 ⟨u, rfl, h1, h2⟩

theorem R_for {x : Nat} {xp p : Pos} {iter : Expr} {body : List Stmt} {tr : PEnv → Store → (D → List D → Store → Prop) → Prop} {bt : PEnv → Store → (Res → Prop) → Prop} (hs : ∀ v, foldedSetIterable iter env v = pure v) (eo : EnvOk nm vs env) (hx : x ∈ vs)
    (hi : SndI c A nm vs env tr iter) (hb : ∀ ρ σ Φ, bt ρ σ Φ → WPs c A nm vs env ρ σ (execs body env) Φ) {ρ : PEnv} {σ : Store} {Φ : Res → Prop}
    (h : tr ρ σ fun d ds σ₁ => forS (fun e ρ' σ' Ψ => bt (ρ'.put x e) σ' Ψ) (keepS d ds) ds ρ σ₁ Φ) : WPs c A nm vs env ρ σ (exec (.For (.Name (nm x) xp) iter body [] p) env) Φ := by
  intro P s g Q E hQ
  refine wpAny_For ?_ hs
  refine hi ρ σ _ h P s g _ _ fun xv d ds σ₁ s₁ hΦ st₁ ok₁ itv => ?_
  obtain ⟨v, hr, hk, hit⟩ := itv
  have g₁ := g.next st₁ ok₁
  refine hit _ _ fun I ok It s₂ hI kp T it hok => ?_
  have st₂ : Step (FrA env) σ₁ σ₁ s₁ s₂ := Step.of_keeps kp
  have g₂ : Good c nm vs env ρ σ₁ P s₂ := g₁.next (Step.of_keeps kp) (g₁.st.keeps (keeps_heap kp))
  refine for_sound T (fun σ' s' a b e => hok σ' P s' a b e) eo hx (fun e ρ' σ' Ψ hb' => hb _ _ _ hb') g₁ hI st₂ g₂ it (hr.keeps (keeps_heap kp)) hk hΦ fun f s' r hr' st ro => ?_
  exact hQ f s' r hr' ((st₁.weak fun _ h => h.elim).trans st) ro
end

section
variable {c : Cx} {n : Nat} {A : Around} {t : Tb} {S : Nat → Spec} (hA : Room n A) (G : GT c n t S)
include hA G

theorem sound_assign (x : Nat) (xp : Pos) (e : PE) (p : Pos) (names : List (Str × NameKind)) (vs : List Nat) (env : Env) (eo : EnvOk t.N.nm vs env) (hn : Nm env names) (hw : wfS t names vs (.assign x xp e p) = true) (ρ : PEnv) (σ : Store) (Φ : Res → Prop)
    (h : vcS S (.assign x xp e p) ρ σ Φ) : WPs c A t.N.nm vs env ρ σ (exec (embS t.N (.assign x xp e p)) env) Φ := by
  have hw := and2 hw
  have hx : x ∈ vs := by simpa using hw.1
  by_cases hc : ∃ m elt y yp it ifs sc fr q, e = .comp m elt y yp it ifs sc fr q
  · obtain ⟨m, elt, y, yp, it, ifs, sc, fr, q, rfl⟩ := hc
    have hw2 := hw.2
    have hsnd := (soundE hA G (.comp m elt y yp it ifs sc fr q) names vs env eo hn hw2).1
    have hw2 := and4 hw2
    have co := compChk_ok hw2.1.1.2 hn
    obtain ⟨b, hb⟩ : ∃ b, swapsWith (.ListComp (emb t.N elt) [⟨.Name (t.N.nm y) yp, embI t.N it, embL t.N ifs, 0⟩] sc q) (some (.Name (t.N.nm x) xp)) p.line env = pure b := ⟨_, rfl⟩
    cases b with
    | true =>
      exact R_assign_comp (embI_fold _ _ _) hb hx co eo (soundI hA G it names vs env eo hn hw2.1.1.1) (fun C => (soundE hA G elt sc.names (y :: fr) _ (co.envOk eo C) (nm_block co _ C) hw2.1.2).1) (fun C => soundL hA G ifs sc.names (y :: fr) _ (co.envOk eo C) (nm_block co _ C) hw2.2) h
    | false => exact R_assign eo hx hb (hsnd ρ σ _ h)
  · exact R_assign eo hx (swaps_no t.N e _ _ env fun m elt y yp it ifs sc fr q e' => hc ⟨m, elt, y, yp, it, ifs, sc, fr, q, e'⟩) ((soundE hA G e names vs env eo hn hw.2).1 ρ σ _ h)

mutual
theorem soundS : ∀ (st : PS) (names : List (Str × NameKind)) (vs : List Nat) (env : Env), EnvOk t.N.nm vs env → Nm env names → wfS t names vs st = true → ∀ ρ σ Φ, vcS S st ρ σ Φ → WPs c A t.N.nm vs env ρ σ (exec (embS t.N st) env) Φ
  | .assign x xp e p, names, vs, env, eo, hn, hw, ρ, σ, Φ, h => sound_assign hA G x xp e p names vs env eo hn hw ρ σ Φ h
  | .expr e p, names, vs, env, eo, hn, hw, ρ, σ, Φ, h => by
    have hw := and2 hw
    intro P s g Q E hQ
    refine wpAny_Expr_any ((soundE hA G e names vs env eo hn hw.2).1 ρ σ _ h P s g _ _ fun v d σ' s' hd st ok hr => ?_) (by unfold interactive; rw [eo.kind]; rfl) ?_
    · exact hQ .next s' _ hd (st.weak fun _ h => h.elim) ⟨rfl, g.next st ok⟩
    · have := hw.1
      cases e <;> first | rfl | cases this
  | .ite e b o p, names, vs, env, eo, hn, hw, ρ, σ, Φ, h => by
    have hw := and3 hw
    intro P s g Q E hQ
    refine wpAny_If ((soundE hA G e names vs env eo hn hw.1.1).2 ρ σ _ h P s g _ _ fun d σ₁ s₁ hd st₁ ok₁ => ?_)
    have g₁ := g.next st₁ ok₁
    have k : ∀ f s' r, Φ r → Step (FrA env) σ₁ r.sto s₁ s' → ResOk c t.N.nm vs env P r f s' → Q f s' := fun f s' r hr st ro => hQ f s' r hr ((st₁.weak fun _ h => h.elim).trans st) ro
    cases d with
    | true => simp only [if_true]; exact soundSs b names vs env eo hn hw.1.2 ρ σ₁ Φ (hd.1 rfl) P s₁ g₁ Q E k
    | false => simp only [Bool.false_eq_true, if_false]; exact soundSs o names vs env eo hn hw.2 ρ σ₁ Φ (hd.2 rfl) P s₁ g₁ Q E k
  | .loop x xp it b p, names, vs, env, eo, hn, hw, ρ, σ, Φ, h => by
    have hw := and3 hw
    exact R_for (embI_fold _ _ _) eo (by simpa using hw.1.1) (soundI hA G it names vs env eo hn hw.1.2) (fun ρ' σ' Φ' h' => soundSs b names vs env eo hn hw.2 ρ' σ' Φ' h') h
  | .while e b p, names, vs, env, eo, hn, hw, ρ, σ, Φ, h => by
    have hw := and2 hw
    obtain ⟨J, k, h0, h1⟩ := h
    exact R_while (soundE hA G e names vs env eo hn hw.1).2 (fun ρ' σ' Φ' h' => soundSs b names vs env eo hn hw.2 ρ' σ' Φ' h') h0 h1
  | .ret e p, names, vs, env, eo, hn, hw, ρ, σ, Φ, h => by
    intro P s g Q E hQ
    exact wpAny_Return_some ((soundE hA G e names vs env eo hn hw).1 ρ σ _ h P s g _ _ fun v d σ' s' hd st ok hr => hQ (.ret v) s' _ hd (st.weak fun _ h => h.elim) ⟨v, rfl, ok, hr⟩)
  | .sattr C o name ap e p, names, vs, env, eo, hn, hw, ρ, σ, Φ, h => by
    have hw := and4 hw
    exact R_sattr (fun l tg => swaps_no' t.N e tg l env (by simpa using hw.1.1.1)) (G.set (C, name) (by simpa using hw.1.1.2)) (soundE hA G o names vs env eo hn hw.1.2).1 (soundE hA G e names vs env eo hn hw.2).1 h
theorem soundSs : ∀ (ss : List PS) (names : List (Str × NameKind)) (vs : List Nat) (env : Env), EnvOk t.N.nm vs env → Nm env names → wfSs t names vs ss = true → ∀ ρ σ Φ, vcSs S ss ρ σ Φ → WPs c A t.N.nm vs env ρ σ (execs (embSs t.N ss) env) Φ
  | [], names, vs, env, eo, hn, hw, ρ, σ, Φ, h => by
    intro P s g Q E hQ
    exact wpAny_execs_nil (hQ .next s _ h (Step.refl _ _ _) ⟨rfl, g⟩)
  | st :: r, names, vs, env, eo, hn, hw, ρ, σ, Φ, h => by
    have hw := and2 hw
    intro P s g Q E hQ
    refine wpAny_execs_cons (soundS st names vs env eo hn hw.1 ρ σ _ h P s g _ _ fun f s₁ res hres st₁ ro => ?_)
    cases res with
    | next ρ' σ' =>
      obtain ⟨rfl, g₁⟩ := ro
      exact soundSs r names vs env eo hn hw.2 ρ' σ' Φ hres P s₁ g₁ Q E fun f s' r' hr st ro => hQ f s' r' hr (st₁.trans st) ro
    | ret d σ' =>
      obtain ⟨u, rfl, h1, h2⟩ := ro
      exact hQ (.ret u) s₁ _ hres st₁ ⟨u, rfl, h1, h2⟩
    | brk ρ' σ' =>
      obtain ⟨rfl, g₁⟩ := ro
      exact hQ .brk s₁ _ hres st₁ ⟨rfl, g₁⟩
    | cont ρ' σ' =>
      obtain ⟨rfl, g₁⟩ := ro
      exact hQ .cont s₁ _ hres st₁ ⟨rfl, g₁⟩
end
end
end Mine

open PySem PyProof.Rows
set_option Elab.async false
set_option linter.unusedVariables false
namespace Mine

theorem Step.leave {F : Addr → Prop} {σ σ' : Store} {s s₁ s' : Shared} (k : Keeps s s₁) (x : Step F σ σ' s₁ s') (hf : ∀ a, F a → s.heap.get? a = Option.none) : Step noF σ σ' s s' := by
  obtain ⟨h₁, t₁, rfl, hk⟩ := k
  refine ⟨?_, fun a o e hd _ => x.keep a o (hk a o e) hd (fun q => by rw [hf a q] at e; cases e), fun a o e => x.alive a o (hk a o e), fun a ha => (x.new a ha).imp id fun e => ?_⟩
  · obtain ⟨h₂, t₂, rfl⟩ := x.same
    exact ⟨h₂, t₂, rfl⟩
  · cases q : s.heap.get? a with
    | none => rfl
    | some o => have := hk a o q; simp only at e; rw [this] at e; cases e

/-- a part of a store -/
noncomputable def Sub (σ' σ : Store) : Prop := ∀ a m, σ' a = some m → σ a = some m
theorem Sub.dom {σ' σ : Store} (h : Sub σ' σ) {a : Addr} (x : dom σ' a) : Mine.dom σ a := by
  rcases x with x | ⟨y, C, fs, x⟩
  · cases e : σ' a with
    | none => exact absurd e x
    | some m => exact .inl (by rw [h a m e]; exact Option.some_ne_none m)
  · exact .inr ⟨y, C, fs, h _ _ x⟩
theorem sub_none {σ' σ : Store} (h : Sub σ' σ) {a : Addr} (e : σ a = Option.none) : σ' a = Option.none := by
  cases q : σ' a with
  | none => rfl
  | some m => rw [h _ _ q] at e; cases e
theorem StoreOk.sub {σ' σ : Store} {P : Addr → Prop} {h : Heap} (ok : StoreOk σ P h) (hs : Sub σ' σ) : StoreOk σ' P h :=
  ⟨fun a mo e => MRep.stay (fun b o items n hN ho _ => ⟨ho, fun q => hN.1 (hs.dom q), hN.2⟩) (fun _ _ _ ho => ho) (ok.rep a mo (hs a mo e)),
    fun x C dx fs e => ⟨sub_none hs (ok.apart x C dx fs (hs _ _ e)).1, fun y C' fs' e' => (ok.apart x C dx fs (hs _ _ e)).2 y C' fs' (hs _ _ e')⟩, fun a ha => ok.free a (hs.dom ha)⟩
theorem Rep.sub {σ' σ : Store} {P : Addr → Prop} {h : Heap} {d : D} {v : Value} (hs : Sub σ' σ) (x : Rep (nd σ P) h d v) : Rep (nd σ' P) h d v := Rep.stay (fun b o items n hN ho _ => ⟨ho, fun q => hN.1 (hs.dom q), hN.2⟩) _ _ x
theorem RepL.sub {σ' σ : Store} {P : Addr → Prop} {h : Heap} {d : List D} {v : List Value} (hs : Sub σ' σ) (x : RepL (nd σ P) h d v) : RepL (nd σ' P) h d v := RepL.stay (fun b o items n hN ho _ => ⟨ho, fun q => hN.1 (hs.dom q), hN.2⟩) _ _ x

/-- at a return: parts of the store are let go; a list that was the store's becomes plain -/
noncomputable def Frz (d : D) (σ : Store) (d' : D) (σ' : Store) : Prop := Sub σ' σ ∧ (d' = d ∨ ∃ a ds, d = .obj a ∧ σ a = some (.mlist ds) ∧ d' = .list ds ∧ σ' a = Option.none)
theorem frz_ok {d d' : D} {σ σ' : Store} {P : Addr → Prop} {h : Heap} {v : Value} (f : Frz d σ d' σ') (ok : StoreOk σ P h) (hr : Rep (nd σ P) h d v) : StoreOk σ' P h ∧ Rep (nd σ' P) h d' v := by
  refine ⟨ok.sub f.1, ?_⟩
  rcases f.2 with rfl | ⟨a, ds, rfl, hm, rfl, hn⟩
  · exact hr.sub f.1
  · simp only [Rep] at hr ⊢
    obtain ⟨us, hl, hw⟩ := ok.rep a _ hm
    refine ⟨a, us, hr, ⟨fun q => ?_, ok.free a (.inl (by rw [hm]; exact Option.some_ne_none _))⟩, hl.isList, hw.sub f.1⟩
    rcases q with q | ⟨y, C, fs, q⟩
    · exact q hn
    · have := (ok.apart y C a fs (f.1 _ _ q)).1
      rw [hm] at this; cases this

/-- what a body's result is for the caller -/
noncomputable def retS (Φ : D → Store → Prop) : Res → Prop
  | .ret d σ => ∃ d' σ', Frz d σ d' σ' ∧ Φ d' σ'
  | .next _ σ => ∃ σ', Sub σ' σ ∧ Φ .none σ'
  | _ => False

theorem Sub.refl (σ : Store) : Sub σ σ := fun _ _ e => e
theorem retS_ret {Φ : D → Store → Prop} {d : D} {σ : Store} (h : Φ d σ) : retS Φ (.ret d σ) := ⟨d, σ, ⟨Sub.refl σ, .inl rfl⟩, h⟩

/-! ### the call of a def -/
noncomputable def initGo : Nat → List (Nat × D) → PEnv
  | 0, _ => []
  | k + 1, l => initGo k l ++ [l.lookup k]
/-- the frame's names at the start: parameters ps with ds, nv names in all -/
noncomputable def initE (ps : List Nat) (ds : List D) (nv : Nat) : PEnv := initGo nv (ps.zip ds)

theorem at_append : ∀ (ρ ρ' : PEnv) (i : Nat) (d : D), PEnv.at (ρ ++ ρ') i = some d → (i < ρ.length ∧ ρ.at i = some d) ∨ (ρ.length ≤ i ∧ PEnv.at ρ' (i - ρ.length) = some d)
  | [], ρ', i, d, h => .inr ⟨Nat.zero_le _, by simpa using h⟩
  | e :: r, ρ', 0, d, h => .inl ⟨by simp, by simpa [PEnv.at] using h⟩
  | e :: r, ρ', i + 1, d, h => by
    have h' : PEnv.at (r ++ ρ') i = some d := by simpa [PEnv.at] using h
    rcases at_append r ρ' i d h' with ⟨a, b⟩ | ⟨a, b⟩
    · exact .inl ⟨by simp; omega, by simpa [PEnv.at] using b⟩
    · exact .inr ⟨by simp; omega, by simpa using b⟩
theorem initGo_length : ∀ k l, (initGo k l).length = k
  | 0, _ => rfl
  | k + 1, l => by simp [initGo, initGo_length k l]
theorem initGo_at : ∀ (k : Nat) (l : List (Nat × D)) (i : Nat) (d : D), (initGo k l).at i = some d → l.lookup i = some d
  | 0, l, i, d, h => by simp [initGo, PEnv.at] at h
  | k + 1, l, i, d, h => by
    simp only [initGo] at h
    rcases at_append _ _ _ _ h with ⟨a, b⟩ | ⟨a, b⟩
    · exact initGo_at k l i d b
    · rw [initGo_length] at a b
      cases hk : i - k with
      | zero =>
        rw [hk] at b
        have : i = k := by omega
        subst this
        simpa [PEnv.at] using b
      | succ j => rw [hk] at b; simp [PEnv.at] at b
theorem lookup_zip : ∀ (ps : List Nat) (ds : List D) (i : Nat) (d : D), (ps.zip ds).lookup i = some d → ∃ j : Nat, ps[j]? = some i ∧ ds[j]? = some d
  | [], ds, i, d, h => by simp at h
  | p :: ps, [], i, d, h => by simp at h
  | p :: ps, e :: ds, i, d, h => by
    rw [List.zip_cons_cons, List.lookup_cons] at h
    cases hb : i == p with
    | true =>
      rw [hb] at h
      simp at h hb
      subst h; subst hb
      exact ⟨0, rfl, rfl⟩
    | false =>
      rw [hb] at h
      obtain ⟨j, h1, h2⟩ := lookup_zip ps ds i d h
      exact ⟨j + 1, by simpa using h1, by simpa using h2⟩

theorem bindL_no {kindOf : Str → Option NameKind} {x : Str} : ∀ (binds : List (Str × Value)) (m : Str → Option Value), x ∉ binds.map (·.1) → bindL kindOf binds m x = m x
  | [], m, _ => rfl
  | (n, v) :: r, m, h => by
    simp only [List.map_cons, List.mem_cons, not_or] at h
    unfold bindL
    rw [bindL_no r _ h.2]
    split
    · exact if_neg h.1
    · rfl
theorem bindC_no {kindOf : Str → Option NameKind} {x : Str} : ∀ (binds : List (Str × Value)) (m : Str → Option Value), x ∉ binds.map (·.1) → bindC kindOf binds m x = m x
  | [], m, _ => rfl
  | (n, v) :: r, m, h => by
    simp only [List.map_cons, List.mem_cons, not_or] at h
    unfold bindC
    rw [bindC_no r _ h.2]
    split
    · rfl
    · exact if_neg h.1
theorem bindL_at {kindOf : Str → Option NameKind} {x : Str} {v : Value} (hk : kindOf x = some .local) : ∀ (binds : List (Str × Value)) (m : Str → Option Value), (binds.map (·.1)).Nodup → (x, v) ∈ binds → bindL kindOf binds m x = some v
  | (n, u) :: r, m, hnd, h => by
    have hnd' := List.nodup_cons.mp hnd
    unfold bindL
    rcases List.mem_cons.mp h with e | h1
    · cases e
      rw [bindL_no r _ hnd'.1, if_pos hk]
      simp
    · exact bindL_at hk r _ hnd'.2 h1
theorem bindC_at {kindOf : Str → Option NameKind} {x : Str} {v : Value} (hk : kindOf x = some .cell) : ∀ (binds : List (Str × Value)) (m : Str → Option Value), (binds.map (·.1)).Nodup → (x, v) ∈ binds → bindC kindOf binds m x = some v
  | (n, u) :: r, m, hnd, h => by
    have hnd' := List.nodup_cons.mp hnd
    unfold bindC
    rcases List.mem_cons.mp h with e | h1
    · cases e
      rw [bindC_no r _ hnd'.1, if_neg (by rw [hk]; decide)]
      simp
    · exact bindC_at hk r _ hnd'.2 h1

theorem cellsFrom_has {x : Str} : ∀ (names : List (Str × NameKind)) (n : Nat) (acc : List (Str × Addr)), ((x, NameKind.cell) ∈ names ∨ ∃ a, (x, a) ∈ acc) → ∃ a, (x, a) ∈ cellsFrom n names acc
  | [], n, acc, h => h.elim (fun h => by cases h) id
  | (m, k) :: r, n, acc, h => by
    unfold cellsFrom
    split
    · refine cellsFrom_has r _ _ ?_
      rcases h with h | ⟨a, h⟩
      · rcases List.mem_cons.mp h with e | h
        · cases e; exact .inr ⟨n, List.mem_cons_self⟩
        · exact .inl h
      · exact .inr ⟨a, List.mem_cons_of_mem _ h⟩
    · rename_i hk
      refine cellsFrom_has r _ _ ?_
      rcases h with h | ⟨a, h⟩
      · rcases List.mem_cons.mp h with e | h
        · cases e; exact absurd (by rfl) hk
        · exact .inl h
      · exact .inr ⟨a, h⟩

/-- the check of a def: names nm, variables vs, parameters ps -/
noncomputable def fnChk (nm : Nat → Str) (vs ps : List Nat) (sc : Scope) : Bool :=
  sc.kind == .function && !sc.isGenerator && !sc.isCoroutine && decide (sc.names.map (·.1)).Nodup && decide ((vs.map nm).Nodup) && ps.all (fun i => vs.contains i) && decide ((ps.map nm).Nodup) &&
  vs.all (fun i => (sc.names.contains (nm i, .local) || sc.names.contains (nm i, .cell)) && !(nm i == ("__debug__" : Str)))

theorem inj_of_nodup {nm : Nat → Str} : ∀ {vs : List Nat}, (vs.map nm).Nodup → ∀ i ∈ vs, ∀ j ∈ vs, nm i = nm j → i = j
  | v :: r, h, i, hi, j, hj, e => by
    have h' := List.nodup_cons.mp h
    rcases List.mem_cons.mp hi with rfl | hi' <;> rcases List.mem_cons.mp hj with rfl | hj'
    · rfl
    · exact absurd (List.mem_map.mpr ⟨j, hj', e.symm⟩) h'.1
    · exact absurd (List.mem_map.mpr ⟨i, hi', e⟩) h'.1
    · exact inj_of_nodup h'.2 i hi' j hj' e

theorem fn_valid {c : Cx} {n : Nat} {t : Tb} {S : Nat → Spec} (G : GT c n t S) {f : Addr} {o : Obj} {fd : FuncData} {body : List PS} {vs ps : List Nat} {nv : Nat} {Sp : Spec}
    (ho : c.b.get? f = some o) (hd : o.data = .func fd) (hcd : c.b.CodeRec fd.code fd.qualname) (hbody : fd.body = .stmts (embSs t.N body)) (hclo : fd.closure = []) (hgl : fd.globals = mainGlobals) (hbu : fd.builtins = builtinsNs)
    (hchk : fnChk t.N.nm vs ps fd.scope = true) (hw : wfSs t fd.scope.names vs body = true) (hbind : ∀ us : List Value, us.length = ps.length → bindArgs fd ⟨us, []⟩ = pure ((ps.map t.N.nm).zip us))
    (hS : ∀ ds σ Φ, Sp ds σ Φ → ds.length = ps.length ∧ vcSs S body (initE ps ds nv) σ (retS Φ)) : Valid c (n + 1) f Sp := by
  refine ⟨⟨o, fd, ho, hd⟩, fun A hA ds σ Φ hSp P s us hb ok own hprot hr Q E hQ => ?_⟩
  obtain ⟨hlen, hvc⟩ := hS ds σ Φ hSp
  have hul : us.length = ps.length := hr.length.trans hlen
  unfold fnChk at hchk
  simp only [Bool.and_eq_true, Bool.not_eq_true', decide_eq_true_eq, List.all_eq_true] at hchk
  obtain ⟨⟨⟨⟨⟨⟨⟨hk1, hk2⟩, hk3⟩, hnd⟩, hvnd⟩, hps⟩, hpnd⟩, hall⟩ := hchk
  have hk1' : fd.scope.kind = .function := by simpa using hk1
  have kindOf : ∀ x k, (x, k) ∈ fd.scope.names → fd.scope.names.lookup x = some k := fun x k hm => lookup_nodup hnd hm
  have kinds : ∀ i ∈ vs, fd.scope.names.lookup (t.N.nm i) = some .local ∨ ((t.N.nm i, NameKind.cell) ∈ fd.scope.names ∧ fd.scope.names.lookup (t.N.nm i) = some .cell) := fun i hi => by
    have := (hall i hi).1
    simp only [Bool.or_eq_true] at this
    rcases this with h | h
    · exact .inl (kindOf _ _ (by simpa using h))
    · exact .inr ⟨by simpa using h, kindOf _ _ (by simpa using h)⟩
  have bnames : ((ps.map t.N.nm).zip us).map (·.1) = ps.map t.N.nm := by
    rw [List.map_fst_zip]; simp [hul]
  refine (codeAny_call_cells (by unfold recursionLimit; have := hA.2.1; omega) (hb f o ho) hd (c.hl.keeps hb) (hcd.keeps hb) hbody (hbind us hul) hclo (fun x hx => ?_) (fun s₁ X => ?_) hk3 hk2 hk1')
  · have hx1 : x.1 ∈ ps.map t.N.nm := by rw [← bnames]; exact List.mem_map_of_mem (f := fun y : Str × Value => y.1) hx
    obtain ⟨i, hi, e⟩ := List.mem_map.mp hx1
    have hiv : i ∈ vs := by simpa using hps i hi
    rw [← e]
    rcases kinds i hiv with h | ⟨h1, h2⟩
    · exact .inl h
    · refine .inr ⟨h2, ?_⟩
      obtain ⟨a, ha⟩ := cellsFrom_has fd.scope.names (s.heap.objs.size + 1) [] (.inl h1)
      obtain ⟨b, hb'⟩ := lookup_of_mem ha
      rw [hb']; rfl
  · have hkeep : ∀ b o, s.heap.get? b = some o → s₁.heap.get? b = some o := X.toInCall.keep
    have kp : Keeps s s₁ := by obtain ⟨h', tk, e, k⟩ := X.done; exact ⟨h', tk, e, k⟩
    have frN : ∀ a, FrA (callEnvC fd s.heap.objs.size f) a → s.heap.get? a = Option.none := fun a ha => by
      have hge : s.heap.objs.size ≤ a := by
        rcases ha with rfl | ⟨y, hy⟩
        · exact X.toInCall.fresh
        · exact Nat.le_of_lt (X.above y a (mem_of_lookup hy))
      cases e : s.heap.get? a with
      | none => rfl
      | some o' => exact absurd (Heap.lt_size e) (Nat.not_lt.mpr hge)
    have eo : EnvOk t.N.nm vs (callEnvC fd s.heap.objs.size f) :=
      ⟨hk1', hgl, hbu, inj_of_nodup hvnd, fun i hi => by
        rcases kinds i hi with h | ⟨h1, h2⟩
        · exact .inl h
        · refine .inr ⟨h2, ?_⟩
          obtain ⟨a, ha⟩ := cellsFrom_has fd.scope.names (s.heap.objs.size + 1) [] (.inl h1)
          exact lookup_of_mem ha, fun i hi => (hall i hi).2, X.apart⟩
    have hn : Nm (callEnvC fd s.heap.objs.size f) fd.scope.names := ⟨fun x hx => kindOf x _ hx, fun x hx => kindOf x _ hx⟩
    have g : Good c t.N.nm vs (callEnvC fd s.heap.objs.size f) (initE ps ds nv) σ P s₁ := by
      refine ⟨fun a o' e => hkeep a o' (hb a o' e), ⟨_, X.toInCall.ns⟩, fun x ca hx => ⟨_, X.cell x ca hx⟩, fun i d e => ?_, ok.keeps hkeep, fun a ha => ⟨own a ha, fun hf => ?_⟩, fun a hf => ?_, fun a ha => ?_⟩
      · obtain ⟨j, hj1, hj2⟩ := lookup_zip ps ds i d (initGo_at _ _ _ _ e)
        have hip : i ∈ ps := List.mem_of_getElem? hj1
        have hiv : i ∈ vs := by simpa using hps i hip
        obtain ⟨v, hv1, hv2⟩ := hr.get hj2
        have hmem : (t.N.nm i, v) ∈ (ps.map t.N.nm).zip us := by
          refine List.mem_of_getElem? (i := j) ?_
          rw [List.getElem?_zip_eq_some]
          exact ⟨by rw [List.getElem?_map, hj1]; rfl, hv1⟩
        refine ⟨hiv, v, ?_, hv2.keeps hkeep⟩
        rcases kinds i hiv with h | ⟨h1, h2⟩
        · exact .inl ⟨h, _, X.toInCall.ns, bindL_at h _ _ (by rw [bnames]; exact hpnd) hmem⟩
        · right
          obtain ⟨a, ha⟩ := cellsFrom_has fd.scope.names (s.heap.objs.size + 1) [] (.inl h1)
          obtain ⟨b, hb'⟩ := lookup_of_mem ha
          refine ⟨h2, b, hb', ?_⟩
          have := X.cell _ _ hb'
          rwa [bindC_at h2 _ _ (by rw [bnames]; exact hpnd) hmem] at this
      · obtain ⟨o', ho'⟩ := ok.alive ha
        rw [frN a hf] at ho'; cases ho'
      · cases e : c.b.get? a with
        | none => rfl
        | some o' => have := hb a o' e; rw [frN a hf] at this; cases this
      · obtain ⟨o', ho'⟩ := hprot a ha
        exact ⟨o', hkeep a o' ho'⟩
    refine soundSs (Room.deeper hA _) G body fd.scope.names vs _ eo hn hw _ _ _ hvc P s₁ g _ _ fun fl s' r hres st ro => ?_
    have stl := Step.leave kp st frN
    cases r with
    | next ρ' σ' =>
      obtain ⟨rfl, g'⟩ := ro
      obtain ⟨σ'', hsub, hΦ⟩ := hres
      exact hQ .none .none σ'' s' hΦ ⟨stl.same, stl.keep, stl.alive, fun a ha => stl.new a (hsub.dom ha)⟩ (g'.st.sub hsub) rep_none
    | ret d σ' =>
      obtain ⟨u, rfl, h1, h2⟩ := ro
      obtain ⟨d', σ'', hfz, hΦ⟩ := hres
      obtain ⟨k1, k2⟩ := frz_ok hfz h1 h2
      exact hQ u d' σ'' s' hΦ ⟨stl.same, stl.keep, stl.alive, fun a ha => stl.new a (hfz.1.dom ha)⟩ k1 k2
    | brk ρ' σ' => exact hres.elim
    | cont ρ' σ' => exact hres.elim
end Mine

open PySem PyProof.Rows
set_option Elab.async false
namespace Mine

/-- a list of whole numbers as data -/
noncomputable abbrev dI (xs : List Int) : D := .list (xs.map D.int)

theorem forS_inv {step : D → PEnv → Store → (Res → Prop) → Prop} {keep : Store → Prop} {Φ : Res → Prop} {ds : List D} (I : Nat → PEnv → Store → Prop) (hkeep : ∀ k ρ σ, I k ρ σ → keep σ)
    (hstep : ∀ k d ρ σ (K : PEnv → Store → Prop), ds[k]? = some d → I k ρ σ → (∀ ρ' σ', I (k + 1) ρ' σ' → K ρ' σ') → step d ρ σ fun r => match r with
      | .next ρ' σ' => K ρ' σ'
      | .cont ρ' σ' => K ρ' σ'
      | .brk ρ' σ' => Φ (.next ρ' σ')
      | .ret d' σ' => Φ (.ret d' σ'))
    (hend : ∀ ρ σ, I ds.length ρ σ → Φ (.next ρ σ)) {ρ : PEnv} {σ : Store} (h0 : I 0 ρ σ) : forS step keep ds ρ σ Φ := by
  suffices H : ∀ n k ρ σ, n = ds.length - k → k ≤ ds.length → I k ρ σ → forS step keep (ds.drop k) ρ σ Φ by
    have := H ds.length 0 ρ σ rfl (Nat.zero_le _) h0
    rwa [List.drop_zero] at this
  intro n
  induction n with
  | zero =>
    intro k ρ σ hn hk hI
    have : k = ds.length := by omega
    subst this
    rw [List.drop_length]
    exact hend ρ σ hI
  | succ n ih =>
    intro k ρ σ hn hk hI
    have hlt : k < ds.length := by omega
    rw [List.drop_eq_getElem_cons hlt]
    simp only [forS]
    exact hstep k ds[k] ρ σ (fun ρ' σ' => keep σ' ∧ forS step keep (ds.drop (k + 1)) ρ' σ' Φ) (List.getElem?_eq_getElem hlt) hI fun ρ' σ' h' => ⟨hkeep _ _ _ h', ih (k + 1) ρ' σ' (by omega) hlt h'⟩

theorem and_decide {p : Prop} [Decidable p] {X Y : Prop} (h1 : p → X) (h2 : ¬ p → Y) : (decide p = true → X) ∧ (decide p = false → Y) := ⟨fun h => h1 (of_decide_eq_true h), fun h => h2 (of_decide_eq_false h)⟩
theorem and_not_decide {p : Prop} [Decidable p] {X Y : Prop} (h1 : ¬ p → X) (h2 : p → Y) : ((!decide p) = true → X) ∧ ((!decide p) = false → Y) := ⟨fun h => h1 (by simpa using h), fun h => h2 (by simpa using h)⟩
theorem get_map_int {xs : List Int} {k : Nat} (h : k < xs.length) : (xs.map D.int)[k]? = some (.int xs[k]) := by rw [List.getElem?_map, List.getElem?_eq_getElem h]; rfl
theorem get_map {α : Type} (f : α → D) {xs : List α} {k : Nat} (h : k < xs.length) : (xs.map f)[k]? = some (f xs[k]) := by rw [List.getElem?_map, List.getElem?_eq_getElem h]; rfl
theorem small_ok {n : Nat} (h : n ≤ 100000) : n ≤ small := by unfold small; omega
end Mine

open PySem PyProof.Rows
set_option Elab.async false
namespace Mine

/-- plain data without truth values, nested at most so deep -/
noncomputable def pl : Nat → D → Prop
  | _, .none => True
  | _, .int _ => True
  | n + 1, .list xs => ∀ x ∈ xs, pl n x
  | n + 1, .tuple xs => ∀ x ∈ xs, pl n x
  | _, _ => False

theorem pys_ok {n : Nat} (ih : ∀ d, pl n d → ∃ x, D.py d = some x ∧ x.canLay0 = true ∧ x.depth ≤ n) : ∀ xs : List D, (∀ x ∈ xs, pl n x) → ∃ ys, D.pys xs = some ys ∧ PyData.canLayAll0 ys = true ∧ PyData.depthAll ys ≤ n
  | [], _ => ⟨[], rfl, rfl, by simp [PyData.depthAll]⟩
  | d :: ds, h => by
    obtain ⟨x, e, c, p⟩ := ih d (h d List.mem_cons_self)
    obtain ⟨ys, e', c', p'⟩ := pys_ok ih ds fun y hy => h y (List.mem_cons_of_mem _ hy)
    refine ⟨x :: ys, by rw [D.pys, e, e']; rfl, by rw [PyData.canLayAll0, c, c']; rfl, ?_⟩
    rw [PyData.depthAll]; omega
theorem pl_py : ∀ (n : Nat) (d : D), pl n d → ∃ x, D.py d = some x ∧ x.canLay0 = true ∧ x.depth ≤ n
  | _, .none, _ => ⟨.none, rfl, rfl, by simp [PyData.depth]⟩
  | _, .int i, _ => ⟨.int i, rfl, rfl, by simp [PyData.depth]⟩
  | n + 1, .list xs, h => by
    obtain ⟨ys, e, c, p⟩ := pys_ok (pl_py n) xs h
    refine ⟨.list ys, by rw [D.py, e]; rfl, by rw [PyData.canLay0]; exact c, ?_⟩
    rw [PyData.depth]; omega
  | n + 1, .tuple xs, h => by
    obtain ⟨ys, e, c, p⟩ := pys_ok (pl_py n) xs h
    refine ⟨.tuple ys, by rw [D.py, e]; rfl, by rw [PyData.canLay0]; exact c, ?_⟩
    rw [PyData.depth]; omega
  | 0, .list _, h => h.elim
  | 0, .tuple _, h => h.elim
  | 0, .bool _, h => h.elim
  | n + 1, .bool _, h => h.elim
  | 0, .str _, h => h.elim
  | n + 1, .str _, h => h.elim
  | 0, .obj _, h => h.elim
  | n + 1, .obj _, h => h.elim

theorem pys_eqv {n : Nat} (ih : ∀ m d e x y, pl n d → pl m e → D.py d = some x → D.py e = some y → (PyData.eqv x y = true ↔ d = e)) {m : Nat} : ∀ (ds es : List D) (xs ys : List PyData), (∀ d ∈ ds, pl n d) → (∀ e ∈ es, pl m e) → D.pys ds = some xs → D.pys es = some ys → (PyData.eqvAll xs ys = true ↔ ds = es)
  | [], [], xs, ys, _, _, e, e' => by cases e; cases e'; simp [PyData.eqvAll]
  | [], d :: es, xs, ys, _, h, e, e' => by
    cases e
    obtain ⟨x, q, _⟩ := pl_py m d (h d List.mem_cons_self)
    obtain ⟨zs, q', _⟩ := pys_ok (pl_py m) es fun y hy => h y (List.mem_cons_of_mem _ hy)
    rw [D.pys, q, q'] at e'
    cases e'
    simp [PyData.eqvAll]
  | d :: ds, [], xs, ys, h, _, e, e' => by
    cases e'
    obtain ⟨x, q, _⟩ := pl_py n d (h d List.mem_cons_self)
    obtain ⟨zs, q', _⟩ := pys_ok (pl_py n) ds fun y hy => h y (List.mem_cons_of_mem _ hy)
    rw [D.pys, q, q'] at e
    cases e
    simp [PyData.eqvAll]
  | d :: ds, f :: es, xs, ys, h, h', e, e' => by
    obtain ⟨x, q, _⟩ := pl_py n d (h d List.mem_cons_self)
    obtain ⟨zs, q', _⟩ := pys_ok (pl_py n) ds fun y hy => h y (List.mem_cons_of_mem _ hy)
    obtain ⟨x2, q2, _⟩ := pl_py m f (h' f List.mem_cons_self)
    obtain ⟨zs2, q2', _⟩ := pys_ok (pl_py m) es fun y hy => h' y (List.mem_cons_of_mem _ hy)
    have i1 := ih m d f x x2 (h d List.mem_cons_self) (h' f List.mem_cons_self) q q2
    have i2 := pys_eqv ih ds es zs zs2 (fun y hy => h y (List.mem_cons_of_mem _ hy)) (fun y hy => h' y (List.mem_cons_of_mem _ hy)) q' q2'
    rw [D.pys, q, q'] at e
    rw [D.pys, q2, q2'] at e'
    cases e; cases e'
    rw [PyData.eqvAll, Bool.and_eq_true, i1, i2, List.cons.injEq]

theorem pl_seq {m : Nat} {xs : List D} (h : pl m (.list xs) ∨ pl m (.tuple xs)) : ∃ k, m = k + 1 ∧ ∀ x ∈ xs, pl k x := by
  cases m with
  | zero => exact h.elim (fun q => q.elim) (fun q => q.elim)
  | succ k => exact ⟨k, rfl, h.elim id id⟩
theorem py_list {xs : List D} {y : PyData} (h : D.py (.list xs) = some y) : ∃ ys, D.pys xs = some ys ∧ y = .list ys := by
  rw [D.py] at h
  cases e : D.pys xs with
  | none => rw [e] at h; cases h
  | some ys => rw [e] at h; cases h; exact ⟨ys, rfl, rfl⟩
theorem py_tuple {xs : List D} {y : PyData} (h : D.py (.tuple xs) = some y) : ∃ ys, D.pys xs = some ys ∧ y = .tuple ys := by
  rw [D.py] at h
  cases e : D.pys xs with
  | none => rw [e] at h; cases h
  | some ys => rw [e] at h; cases h; exact ⟨ys, rfl, rfl⟩
theorem pl_not_bool {n : Nat} {b : Bool} : ¬ pl n (.bool b) := by cases n <;> exact id
theorem pl_not_str {n : Nat} {b : Str} : ¬ pl n (.str b) := by cases n <;> exact id
theorem pl_not_obj {n : Nat} {b : Addr} : ¬ pl n (.obj b) := by cases n <;> exact id

theorem pl_eqv : ∀ (n m : Nat) (d e : D) (x y : PyData), pl n d → pl m e → D.py d = some x → D.py e = some y → (PyData.eqv x y = true ↔ d = e) := by
  intro n
  induction n with
  | zero =>
    intro m d e x y hd he px py
    cases d with
    | none =>
      cases px
      cases e with
      | none => cases py; simp [PyData.eqv]
      | int j => cases py; simp [PyData.eqv]
      | list xs => obtain ⟨ys, _, rfl⟩ := py_list py; simp [PyData.eqv]
      | tuple xs => obtain ⟨ys, _, rfl⟩ := py_tuple py; simp [PyData.eqv]
      | bool b => exact (pl_not_bool he).elim
      | str b => exact (pl_not_str he).elim
      | obj b => exact (pl_not_obj he).elim
    | int i =>
      cases px
      cases e with
      | none => cases py; simp [PyData.eqv]
      | int j => cases py; simp [PyData.eqv]
      | list xs => obtain ⟨ys, _, rfl⟩ := py_list py; simp [PyData.eqv]
      | tuple xs => obtain ⟨ys, _, rfl⟩ := py_tuple py; simp [PyData.eqv]
      | bool b => exact (pl_not_bool he).elim
      | str b => exact (pl_not_str he).elim
      | obj b => exact (pl_not_obj he).elim
    | list xs => exact hd.elim
    | tuple xs => exact hd.elim
    | bool b => exact hd.elim
    | str b => exact hd.elim
    | obj b => exact hd.elim
  | succ n ih =>
    intro m d e x y hd he px py
    cases d with
    | none =>
      cases px
      cases e with
      | none => cases py; simp [PyData.eqv]
      | int j => cases py; simp [PyData.eqv]
      | list xs => obtain ⟨ys, _, rfl⟩ := py_list py; simp [PyData.eqv]
      | tuple xs => obtain ⟨ys, _, rfl⟩ := py_tuple py; simp [PyData.eqv]
      | bool b => exact (pl_not_bool he).elim
      | str b => exact (pl_not_str he).elim
      | obj b => exact (pl_not_obj he).elim
    | int i =>
      cases px
      cases e with
      | none => cases py; simp [PyData.eqv]
      | int j => cases py; simp [PyData.eqv]
      | list xs => obtain ⟨ys, _, rfl⟩ := py_list py; simp [PyData.eqv]
      | tuple xs => obtain ⟨ys, _, rfl⟩ := py_tuple py; simp [PyData.eqv]
      | bool b => exact (pl_not_bool he).elim
      | str b => exact (pl_not_str he).elim
      | obj b => exact (pl_not_obj he).elim
    | list xs =>
      obtain ⟨xs', px', rfl⟩ := py_list px
      cases e with
      | none => cases py; simp [PyData.eqv]
      | int j => cases py; simp [PyData.eqv]
      | list ys =>
        obtain ⟨ys', py', rfl⟩ := py_list py
        obtain ⟨k, _, hk⟩ := pl_seq (.inl he)
        rw [PyData.eqv, pys_eqv ih xs ys xs' ys' hd hk px' py', D.list.injEq]
      | tuple ys => obtain ⟨ys, _, rfl⟩ := py_tuple py; simp [PyData.eqv]
      | bool b => exact (pl_not_bool he).elim
      | str b => exact (pl_not_str he).elim
      | obj b => exact (pl_not_obj he).elim
    | tuple xs =>
      obtain ⟨xs', px', rfl⟩ := py_tuple px
      cases e with
      | none => cases py; simp [PyData.eqv]
      | int j => cases py; simp [PyData.eqv]
      | tuple ys =>
        obtain ⟨ys', py', rfl⟩ := py_tuple py
        obtain ⟨k, _, hk⟩ := pl_seq (.inr he)
        rw [PyData.eqv, pys_eqv ih xs ys xs' ys' hd hk px' py', D.tuple.injEq]
      | list ys => obtain ⟨ys, _, rfl⟩ := py_list py; simp [PyData.eqv]
      | bool b => exact (pl_not_bool he).elim
      | str b => exact (pl_not_str he).elim
      | obj b => exact (pl_not_obj he).elim
    | bool b => exact hd.elim
    | str b => exact hd.elim
    | obj b => exact hd.elim

theorem pl_shaped {d : D} (h : pl 20 d) : ∃ x, D.py d = some x ∧ SeqAt.shaped x = true := by
  obtain ⟨x, e, c, p⟩ := pl_py 20 d h
  refine ⟨x, e, ?_⟩
  show (x.canLay0 && decide (x.depth ≤ 64)) = true
  rw [c, decide_eq_true (by omega)]; rfl
theorem pl_eqP {d : D} {σ : Store} (h : pl 20 d) : eqP σ d = D.py d := by
  cases d with
  | obj a => exact h.elim
  | _ => rfl
theorem pl2 {a b : D} (σ : Store) (ha : pl 20 a) (hb : pl 20 b) : ∃ x y t, eqP σ a = some x ∧ eqP σ b = some y ∧ SeqAt.shaped x = true ∧ SeqAt.shaped y = true ∧ PyData.eqv x y = t ∧ (t = true ↔ a = b) := by
  obtain ⟨x, e, c⟩ := pl_shaped ha
  obtain ⟨y, e', c'⟩ := pl_shaped hb
  exact ⟨x, y, _, (pl_eqP ha).trans e, (pl_eqP hb).trans e', c, c', rfl, pl_eqv 20 20 a b x y ha hb e e'⟩
theorem pl1 {a : D} (σ : Store) (ha : pl 20 a) : ∃ x, eqP σ a = some x ∧ SeqAt.shaped x = true ∧ PyData.eqv x x = true := by
  obtain ⟨x, e, c⟩ := pl_shaped ha
  exact ⟨x, (pl_eqP ha).trans e, c, (pl_eqv 20 20 a a x x ha ha e e).mpr rfl⟩
theorem pl_ints {n : Nat} (xs : List Int) : pl (n + 1) (dI xs) := by
  intro x hx
  obtain ⟨i, _, rfl⟩ := List.mem_map.mp hx
  cases n <;> exact trivial
theorem pl_list {n : Nat} {α : Type} (f : α → D) (xs : List α) (h : ∀ x ∈ xs, pl n (f x)) : pl (n + 1) (.list (xs.map f)) := by
  intro x hx
  obtain ⟨i, hi, rfl⟩ := List.mem_map.mp hx
  exact h i hi
/-- what a falling test leaves is a beginning -/
theorem filter_prefix {α : Type} (p : α → Bool) : ∀ (l : List α), l.Pairwise (fun a b => p b = true → p a = true) → ∀ (i : Nat) (hi : i < l.length), p l[i] = decide (i < (l.filter p).length)
  | [], _, i, hi => by simp at hi
  | a :: r, h, i, hi => by
    rw [List.pairwise_cons] at h
    cases e : p a with
    | true =>
      rw [List.filter_cons_of_pos e, List.length_cons]
      cases i with
      | zero => simpa using e
      | succ i =>
        simp only [List.getElem_cons_succ]
        rw [filter_prefix p r h.2 i (by simpa using hi)]
        simp
    | false =>
      have hr : ∀ b ∈ r, p b = false := fun b hb => by
        cases q : p b with
        | false => rfl
        | true => rw [h.1 b hb q] at e; cases e
      have : (a :: r).filter p = [] := List.filter_eq_nil_iff.mpr fun b hb => by
        rcases List.mem_cons.mp hb with rfl | hb
        · simp [e]
        · simp [hr b hb]
      rw [this]
      cases i with
      | zero => simpa using e
      | succ i => simp only [List.getElem_cons_succ]; rw [hr _ (List.getElem_mem _)]; simp
end Mine

open PySem PySem.W PyProof.Rows
set_option Elab.async false
namespace Mine
theorem globF {c : Cx} {x : Str} {v : Value} (h : c.mg x = some v) : c.glob x = some v := by rw [Cx.glob, h]; rfl
theorem globB {c : Cx} {x : Str} {v : Value} (h : c.mg x = none) (B : ∀ x : Str, x ≠ "__name__" → c.mb x = bootBuiltins x) (hx : x ≠ "__name__") (e : bootBuiltins x = some v) : c.glob x = some v := by
  rw [Cx.glob, h, B x hx, e]; rfl
theorem repL_ints {N : Addr → Prop} {h : Heap} : ∀ {vs : List Value} {ns : List Int}, IntsAre vs ns → RepL N h (ns.map D.int) vs
  | _, _, .nil => .nil
  | _, _, .cons n t r => .cons (by simp only [Rep]; exact ⟨t, rfl⟩) (repL_ints r)
noncomputable def noS : Store := fun _ => none
theorem noS_dom {a : Addr} : ¬ dom noS a := by
  rintro (h | ⟨x, C, fs, h⟩)
  · exact h rfl
  · cases h
theorem storeOk_no {P : Addr → Prop} {h : Heap} : StoreOk noS P h := ⟨fun a mo e => (by cases e), fun x C dx fs e => (by cases e), fun a ha => (noS_dom ha).elim⟩

/-- a law that is valid keeps its row's claim -/
theorem law_good {c : Cx} {n : Nat} {f : Addr} {Sp : Spec} (V : Valid c n f Sp) {s₁ : Shared} (hb : c.b = s₁.heap) (hn : Room n callerA) {a : Addr} {vs : List Value} {ns : List Int} (hL : s₁.heap.IsList a vs.toArray) (hI : IntsAre vs ns) (hg : s₁.gens = #[])
    (hS : Sp [dI ns] noS (fun d _ => d = .bool true)) {cl : ClaimW} {ca : Str → Option Addr} {mean : ExcName → Option Value} {args : List WData} (hr : ∀ x, cl.raises args x = false) (hp : cl.post args (.bool true) args = true) :
    codeAny c.M callerA (.call (.ref f) ⟨[.ref a], []⟩) (GoodWG cl ca mean args s₁) s₁ := by
  refine codeAny_mono (R := fun r s' => GoodW cl ca mean args s₁ r s') ?_ (fun _ _ g => GoodW.toG g)
  have := V.call callerA hn [dI ns] noS _ hS (fun _ => False) s₁ [.ref a] (fun a o e => by rw [hb] at e; exact e) storeOk_no (fun a ha => (noS_dom ha).elim) (fun a ha => ha.elim)
    (.one (by simp only [Rep]; exact ⟨a, vs.toArray, rfl, ⟨noS_dom, id⟩, hL, by simpa using repL_ints hI⟩))
    (fun v s' => GoodW cl ca mean args s₁ (.ok (.ret v)) s') (fun e s' => GoodW cl ca mean args s₁ (.error e) s') (fun v d σ' s' hd st ok hr' => ?_)
  · refine codeAny_mono this fun r s' h => ?_
    match r, h with
    | .ok (.ret v), h => exact h
    | .error e, h => exact h
  · subst hd
    simp only [Rep] at hr'
    subst hr'
    obtain ⟨h', tk, rfl⟩ := st.same
    exact ⟨.inl ⟨.bool true, .bool true, [], rfl, hr, .bool true, hp, fun _ => ⟨List.nodup_nil, fun a ha => by cases ha⟩⟩, fun b o e => st.keep b o e noS_dom id, rfl, hg⟩
end Mine

open PySem PyProof.Rows
set_option Elab.async false
namespace Mine
theorem compS_mapG {α : Type} {step : D → Store → (Option D → Store → Prop) → Prop} {keep : Store → Prop} {σ : Store} (g : α → D) (f : α → Option D) (hk : keep σ) : ∀ (l : List α) (acc : List D) {Ψ : List D → Store → Prop}, (∀ x ∈ l, ∀ K : Option D → Store → Prop, K (f x) σ → step (g x) σ K) →
    Ψ (acc ++ l.filterMap f) σ → compS step keep (l.map g) σ acc Ψ
  | [], acc, Ψ, _, h => by simpa [compS] using h
  | d :: ds, acc, Ψ, hs, h => by
    simp only [List.map_cons, compS]
    refine hs d List.mem_cons_self _ ⟨hk, compS_mapG g f hk ds _ (fun e he => hs e (List.mem_cons_of_mem _ he)) ?_⟩
    cases e : f d with
    | none => simpa [List.filterMap_cons, e] using h
    | some y => simpa [List.filterMap_cons, e] using h
theorem set_at (σ : Store) (a : Addr) (m : MObj) : (σ.set a m) a = some m := by unfold Store.set; rw [if_pos rfl]
theorem set_set (σ : Store) (a : Addr) (m n : MObj) : (σ.set a m).set a n = σ.set a n := by
  funext x
  unfold Store.set
  by_cases h : x = a
  · rw [if_pos h, if_pos h]
  · rw [if_neg h, if_neg h, if_neg h]
theorem retS_frz {Φ : D → Store → Prop} {a : Addr} {σ : Store} {ds : List D} (hf : freshIn σ a) (h : Φ (.list ds) σ) : retS Φ (.ret (.obj a) (σ.set a (.mlist ds))) := by
  refine ⟨.list ds, σ, ⟨fun x m e => ?_, .inr ⟨a, ds, rfl, set_at _ _ _, rfl, hf.1⟩⟩, h⟩
  unfold Store.set
  by_cases q : x = a
  · subst q; rw [hf.1] at e; cases e
  · rw [if_neg q]; exact e
theorem and_tt {X Y : Prop} (h : X) : (true = true → X) ∧ (true = false → Y) := ⟨fun _ => h, fun e => Bool.noConfusion e⟩
theorem and_ff {X Y : Prop} (h : Y) : (false = true → X) ∧ (false = false → Y) := ⟨fun e => Bool.noConfusion e, fun _ => h⟩
theorem and_ff' {X Y : Prop} (h : Y) : (true = false → X) ∧ (true = true → Y) := ⟨fun e => Bool.noConfusion e, fun _ => h⟩
theorem and_tf' {X Y : Prop} (h : X) : (false = false → X) ∧ (false = true → Y) := ⟨fun _ => h, fun e => Bool.noConfusion e⟩
theorem filterMap_int {α : Type} (f : α → Option Int) : ∀ l : List α, (l.filterMap fun x => (f x).map D.int) = (l.filterMap f).map D.int
  | [] => rfl
  | x :: r => by
    rw [List.filterMap_cons, List.filterMap_cons]
    cases e : f x with
    | none => simp only [Option.map_none]; exact filterMap_int f r
    | some i => simp only [Option.map_some, List.map_cons]; rw [filterMap_int f r]
end Mine

open PySem PySem.W PySem.Calls PyProof.Rows
set_option maxRecDepth 100000
namespace Mine

noncomputable def topG (thr : Thread → Bool) (ok : Thread → Bool) (st : SharedT → Thread → Option (SharedT × Thread)) (M : Nat) : SharedT → Thread → Option SharedT :=
  @Nat.rec (fun _ => SharedT → Thread → Option SharedT) (fun _ _ => none)
    (fun _ ih s t => @Bool.rec (fun _ => Option SharedT) (@Bool.rec (fun _ => Option SharedT) none ((st s t).bind fun r => ih r.1 r.2) (ok t)) (some s) (thr t)) M

theorem topG_of {tb : String → Option Builtin} {p : Program} {w : World} {n₀ : Nat} {ann : Option Value} : ∀ {n : Nat} {s s' : SharedT} {t : Thread},
    topG through (stepOk n₀ ann) (stepT (denote tb) p w) n s t = some s' → topRun tb p w n₀ ann n s.abs t = some s'.abs
  | 0, _, _, _, h => by cases h
  | n + 1, s, s', t, h => by
    have h' : @Bool.rec (fun _ => Option SharedT) (@Bool.rec (fun _ => Option SharedT) none ((stepT (denote tb) p w s t).bind fun r => topG through (stepOk n₀ ann) (stepT (denote tb) p w) n r.1 r.2) (stepOk n₀ ann t)) (some s) (through t) = some s' := h
    unfold topRun
    cases ht : through t with
    | true => rw [ht] at h'; exact congrArg (Option.map SharedT.abs) h'
    | false =>
      rw [ht] at h'
      cases hk : stepOk n₀ ann t with
      | false => rw [hk] at h'; cases h'
      | true =>
        rw [hk] at h'
        obtain ⟨⟨s₂, t₂⟩, hs, hr⟩ := Option.bind_eq_some_iff.mp h'
        show (match step (denote tb) p w s.abs t with | .go s' t' => topRun tb p w n₀ ann n s' t' | .halt _ _ => none) = _
        rw [stepT_spec hs]
        exact topG_of hr

/-- the law's head from one run over a tree, with no snapshot written out -/
theorem left_of_tree {p q : Program} {loose : List Str} {Xt : Shared → Bool} {α : Type} {Yf : Shared → α} {Ya : World → α} {N : Nat} {g0 : Bool} {T₀ : Params → BT} {m₀ M : Nat} {li : Life} {ann : Option Value}
    (e : opening p = plainProg p.main.scope.names) (hN : Nat.ble 600 N = true) (f : ∀ s, fenceModules? p s = some s) (t0 : ∀ P, absHeap (T₀ P) m₀ li = boot_heap P)
    (size : ∀ P, ((boot_heap P).isNs mainGlobals, (boot_heap P).objs.size, (boot_heap P).nsMap mainGlobals "__annotations__") = (true, m₀, ann)) (le : Nat.ble M N = true)
    (run : ∀ w : World, (fun os => (topG through (stepOk m₀ ann) (stepT (denote treeTable) p w) M ⟨T₀ w.params, m₀, li, Array.mk [], boot_drawn, boot_toks, os⟩ (topStub p)).map (fun s =>
        ((staticsOk (importedModules p.main.body) (boot_heap w.params) s.abs.heap && namesBound p s.abs.heap && gensDone s.abs && laidKept (boot_heap w.params) s.abs.heap),
          openSeen q loose (importedModules p.main.body) Xt g0 s.abs, Yf s.abs))) = fun _ => some (true, openGood q loose, Ya w)) : LeftO p q loose Xt Yf Ya N g0 := fun w => by
  obtain ⟨⟨h, gs, d, k, os⟩, e, e'⟩ := Option.map_eq_some_iff.mp (boot_open e hN f w)
  obtain ⟨rfl, rfl, rfl, rfl⟩ : h = boot_heap w.params ∧ gs = Array.mk [] ∧ d = boot_drawn ∧ k = boot_toks := by simpa using e'
  obtain ⟨z1, z2, z3⟩ : _ ∧ _ ∧ _ := by simpa only [Prod.mk.injEq] using size w.params
  obtain ⟨s, hs, l⟩ := Option.map_eq_some_iff.mp (congrFun (run w) os)
  obtain ⟨l1, l2, l3⟩ : _ ∧ _ ∧ _ := by simpa only [Prod.mk.injEq] using l
  have r := topRun_mono (N - M) _ _ _ _ (topG_of hs)
  rw [show M + (N - M) = N by have := Nat.le_of_ble_eq_true le; omega] at r
  have ea : SharedT.abs ⟨T₀ w.params, m₀, li, Array.mk [], boot_drawn, boot_toks, os⟩ = ⟨boot_heap w.params, Array.mk [], boot_drawn, boot_toks, os⟩ := by unfold SharedT.abs; rw [t0]
  rw [ea] at r
  have t : topFrom treeTable p w N ⟨boot_heap w.params, Array.mk [], boot_drawn, boot_toks, os⟩ = some s.abs := by
    unfold topFrom
    dsimp only
    rw [z1, z2, z3, r]
    show (match staticsOk (importedModules p.main.body) (boot_heap w.params) s.abs.heap && namesBound p s.abs.heap && gensDone s.abs && laidKept (boot_heap w.params) s.abs.heap with | true => _ | false => _) = _
    rw [l1]
  unfold openEnds
  rw [e]
  show (topFrom treeTable p w N _).map _ = _
  rw [t]
  exact congrArg some (Prod.ext l2 l3)

/-- the statement at a path of the text, and the object of a def -/
noncomputable def sAt : List Stmt → List Nat → Stmt
  | ss, [i] => ss.getD i (.Pass default)
  | ss, i :: r => match ss.getD i (.Pass default) with
    | .ClassDef _ _ _ body .. => sAt body r
    | s => s
  | _, [] => .Pass default
noncomputable def fob (st : Stmt) (qn : Str) (doc mod code : Value) : Obj := match st with
  | .FunctionDef name args body _ _ _ scope _ _ _ => ⟨.type "function", none, .func ⟨name, qn, args, .stmts body, scope, 3, [], .none, .none, doc, mod, none, code, .none, 0⟩, #[]⟩
  | _ => default
end Mine

open PySem PyProof.Rows
set_option Elab.async false
set_option maxRecDepth 20000
namespace Mine.L06

noncomputable def nm_less : Nat → Str
  | 0 => PySem.Str.ofString "one"
  | 1 => PySem.Str.ofString "other"
  | 2 => PySem.Str.ofString "at"
  | _ => ""

noncomputable def p_less : List PS := [.loop 2 ⟨6, 8, 6, 10⟩ (.range 0 ⟨6, 14, 6, 19⟩ (.bi .min2 false 1 ⟨6, 20, 6, 23⟩ [(.bi .len false 2 ⟨6, 24, 6, 27⟩ [(.var 0 ⟨6, 28, 6, 31⟩)] ⟨6, 24, 6, 32⟩), (.bi .len false 2 ⟨6, 34, 6, 37⟩ [(.var 1 ⟨6, 38, 6, 43⟩)] ⟨6, 34, 6, 44⟩)] ⟨6, 20, 6, 45⟩) ⟨6, 14, 6, 46⟩) [.ite (.cmp .NotEq (.sub (.var 0 ⟨7, 11, 7, 14⟩) (.var 2 ⟨7, 15, 7, 17⟩) ⟨7, 11, 7, 18⟩) (.sub (.var 1 ⟨7, 22, 7, 27⟩) (.var 2 ⟨7, 28, 7, 30⟩) ⟨7, 22, 7, 31⟩) ⟨7, 11, 7, 31⟩) [.ret (.cmp .Lt (.sub (.var 0 ⟨8, 19, 8, 22⟩) (.var 2 ⟨8, 23, 8, 25⟩) ⟨8, 19, 8, 26⟩) (.sub (.var 1 ⟨8, 29, 8, 34⟩) (.var 2 ⟨8, 35, 8, 37⟩) ⟨8, 29, 8, 38⟩) ⟨8, 19, 8, 38⟩) ⟨8, 12, 8, 38⟩] [] ⟨7, 8, 8, 38⟩] ⟨6, 4, 8, 38⟩,
    .ret (.cmp .Lt (.bi .len false 2 ⟨9, 11, 9, 14⟩ [(.var 0 ⟨9, 15, 9, 18⟩)] ⟨9, 11, 9, 19⟩) (.bi .len false 2 ⟨9, 22, 9, 25⟩ [(.var 1 ⟨9, 26, 9, 31⟩)] ⟨9, 22, 9, 32⟩) ⟨9, 11, 9, 32⟩) ⟨9, 4, 9, 32⟩]

noncomputable def nm_below : Nat → Str
  | 0 => PySem.Str.ofString "rows"
  | 1 => PySem.Str.ofString "key"
  | 2 => PySem.Str.ofString "low"
  | 3 => PySem.Str.ofString "high"
  | 4 => PySem.Str.ofString "middle"
  | _ => ""

noncomputable def p_below : List PS := [.assign 2 ⟨11, 4, 11, 7⟩ (.cint 0 ⟨11, 10, 11, 11⟩) ⟨11, 4, 11, 11⟩,
    .assign 3 ⟨12, 4, 12, 8⟩ (.bi .len false 2 ⟨12, 11, 12, 14⟩ [(.var 0 ⟨12, 15, 12, 19⟩)] ⟨12, 11, 12, 20⟩) ⟨12, 4, 12, 20⟩,
    .while (.cmp .Lt (.var 2 ⟨13, 10, 13, 13⟩) (.var 3 ⟨13, 16, 13, 20⟩) ⟨13, 10, 13, 20⟩) [.assign 4 ⟨14, 8, 14, 14⟩ (.bin .FloorDiv (.bin .Add (.var 2 ⟨14, 18, 14, 21⟩) (.var 3 ⟨14, 24, 14, 28⟩) ⟨14, 18, 14, 28⟩) (.cint 2 ⟨14, 33, 14, 34⟩) ⟨14, 17, 14, 34⟩) ⟨14, 8, 14, 34⟩,
    .ite (.call 3 ⟨15, 11, 15, 15⟩ [(.sub (.var 0 ⟨15, 16, 15, 20⟩) (.var 4 ⟨15, 21, 15, 27⟩) ⟨15, 16, 15, 28⟩), (.var 1 ⟨15, 30, 15, 33⟩)] ⟨15, 11, 15, 34⟩) [.assign 2 ⟨16, 12, 16, 15⟩ (.bin .Add (.var 4 ⟨16, 18, 16, 24⟩) (.cint 1 ⟨16, 27, 16, 28⟩) ⟨16, 18, 16, 28⟩) ⟨16, 12, 16, 28⟩] [.assign 3 ⟨18, 12, 18, 16⟩ (.var 4 ⟨18, 19, 18, 25⟩) ⟨18, 12, 18, 25⟩] ⟨15, 8, 18, 25⟩] ⟨13, 4, 18, 25⟩,
    .ret (.var 2 ⟨19, 11, 19, 14⟩) ⟨19, 4, 19, 14⟩]

noncomputable def nm_merged : Nat → Str
  | 0 => PySem.Str.ofString "wish"
  | 1 => PySem.Str.ofString "found"
  | 2 => PySem.Str.ofString "column"
  | 3 => PySem.Str.ofString "lows"
  | 4 => PySem.Str.ofString "highs"
  | 5 => PySem.Str.ofString "triple"
  | 6 => PySem.Str.ofString "triple"
  | 7 => PySem.Str.ofString "triple"
  | _ => ""

noncomputable def p_merged : List PS := [.assign 1 ⟨22, 4, 22, 9⟩ (.list true [] ⟨22, 12, 22, 14⟩) ⟨22, 4, 22, 14⟩,
    .loop 2 ⟨23, 8, 23, 14⟩ (.of (.sset 4 ⟨23, 18, 23, 24⟩ 5 ⟨23, 25, 23, 28⟩ (.comp false (.sub (.var 5 ⟨23, 30, 23, 36⟩) (.cint 0 ⟨23, 37, 23, 38⟩) ⟨23, 30, 23, 39⟩) 5 ⟨23, 44, 23, 50⟩ (.of (.var 0 ⟨23, 54, 23, 58⟩)) [] { kind := .function, names := [(PySem.Str.ofString ".0", .local), (PySem.Str.ofString "triple", .local)], isGenerator := false, isCoroutine := false, more := [] } [] ⟨23, 29, 23, 59⟩) ⟨23, 25, 23, 60⟩ ⟨23, 18, 23, 61⟩)) [.assign 3 ⟨24, 8, 24, 12⟩ (.comp false (.sub (.var 6 ⟨24, 16, 24, 22⟩) (.cint 1 ⟨24, 23, 24, 24⟩) ⟨24, 16, 24, 25⟩) 6 ⟨24, 30, 24, 36⟩ (.of (.var 0 ⟨24, 40, 24, 44⟩)) [(.bop .And [(.cmp .Eq (.sub (.var 6 ⟨24, 48, 24, 54⟩) (.cint 0 ⟨24, 55, 24, 56⟩) ⟨24, 48, 24, 57⟩) (.var 2 ⟨24, 61, 24, 67⟩) ⟨24, 48, 24, 67⟩), (.cmp .IsNot (.sub (.var 6 ⟨24, 72, 24, 78⟩) (.cint 1 ⟨24, 79, 24, 80⟩) ⟨24, 72, 24, 81⟩) (.cnone ⟨24, 89, 24, 93⟩) ⟨24, 72, 24, 93⟩)] ⟨24, 48, 24, 93⟩)] { kind := .function, names := [(PySem.Str.ofString ".0", .local), (PySem.Str.ofString "triple", .local), (PySem.Str.ofString "column", .free)], isGenerator := false, isCoroutine := false, more := [] } [2] ⟨24, 15, 24, 94⟩) ⟨24, 8, 24, 94⟩,
    .assign 4 ⟨25, 8, 25, 13⟩ (.comp false (.sub (.var 7 ⟨25, 17, 25, 23⟩) (.cint 2 ⟨25, 24, 25, 25⟩) ⟨25, 17, 25, 26⟩) 7 ⟨25, 31, 25, 37⟩ (.of (.var 0 ⟨25, 41, 25, 45⟩)) [(.bop .And [(.cmp .Eq (.sub (.var 7 ⟨25, 49, 25, 55⟩) (.cint 0 ⟨25, 56, 25, 57⟩) ⟨25, 49, 25, 58⟩) (.var 2 ⟨25, 62, 25, 68⟩) ⟨25, 49, 25, 68⟩), (.cmp .IsNot (.sub (.var 7 ⟨25, 73, 25, 79⟩) (.cint 2 ⟨25, 80, 25, 81⟩) ⟨25, 73, 25, 82⟩) (.cnone ⟨25, 90, 25, 94⟩) ⟨25, 73, 25, 94⟩)] ⟨25, 49, 25, 94⟩)] { kind := .function, names := [(PySem.Str.ofString ".0", .local), (PySem.Str.ofString "triple", .local), (PySem.Str.ofString "column", .free)], isGenerator := false, isCoroutine := false, more := [] } [2] ⟨25, 16, 25, 95⟩) ⟨25, 8, 25, 95⟩,
    .expr (.app (.var 1 ⟨26, 8, 26, 13⟩) ⟨26, 8, 26, 20⟩ (.tup [(.var 2 ⟨26, 22, 26, 28⟩), (.mmd true 6 ⟨26, 30, 26, 33⟩ (.var 3 ⟨26, 34, 26, 38⟩) ⟨26, 48, 26, 52⟩ ⟨26, 40, 26, 52⟩ ⟨26, 30, 26, 53⟩), (.mmd false 1 ⟨26, 55, 26, 58⟩ (.var 4 ⟨26, 59, 26, 64⟩) ⟨26, 74, 26, 78⟩ ⟨26, 66, 26, 78⟩ ⟨26, 55, 26, 79⟩)] 0 ⟨26, 21, 26, 80⟩) ⟨26, 8, 26, 81⟩) ⟨26, 8, 26, 81⟩] ⟨23, 4, 26, 81⟩,
    .ret (.var 1 ⟨27, 11, 27, 16⟩) ⟨27, 4, 27, 16⟩]

noncomputable def nm_triple_of : Nat → Str
  | 0 => PySem.Str.ofString "wish"
  | 1 => PySem.Str.ofString "column"
  | 2 => PySem.Str.ofString "triple"
  | _ => ""

noncomputable def p_triple_of : List PS := [.loop 2 ⟨30, 8, 30, 14⟩ (.of (.var 0 ⟨30, 18, 30, 22⟩)) [.ite (.cmp .Eq (.sub (.var 2 ⟨31, 11, 31, 17⟩) (.cint 0 ⟨31, 18, 31, 19⟩) ⟨31, 11, 31, 20⟩) (.var 1 ⟨31, 24, 31, 30⟩) ⟨31, 11, 31, 30⟩) [.ret (.var 2 ⟨32, 19, 32, 25⟩) ⟨32, 12, 32, 25⟩] [] ⟨31, 8, 32, 25⟩] ⟨30, 4, 32, 25⟩,
    .ret (.cnone ⟨33, 11, 33, 15⟩) ⟨33, 4, 33, 15⟩]

noncomputable def nm_Kept___init__ : Nat → Str
  | 0 => PySem.Str.ofString "self"
  | 1 => PySem.Str.ofString "columns"
  | _ => ""

noncomputable def p_Kept___init__ : List PS := [.sattr 114 (.var 0 ⟨37, 8, 37, 12⟩) "columns" ⟨37, 8, 37, 20⟩ (.var 1 ⟨37, 23, 37, 30⟩) ⟨37, 8, 37, 30⟩,
    .sattr 114 (.var 0 ⟨38, 8, 38, 12⟩) "entries" ⟨38, 8, 38, 20⟩ (.list true [] ⟨38, 23, 38, 25⟩) ⟨38, 8, 38, 25⟩]

noncomputable def nm_Kept_entry_of : Nat → Str
  | 0 => PySem.Str.ofString "self"
  | 1 => PySem.Str.ofString "number"
  | 2 => PySem.Str.ofString "row"
  | 3 => PySem.Str.ofString "column"
  | _ => ""

noncomputable def p_Kept_entry_of : List PS := [.ret (.bin .Add (.comp false (.sub (.var 2 ⟨41, 16, 41, 19⟩) (.var 3 ⟨41, 20, 41, 26⟩) ⟨41, 16, 41, 27⟩) 3 ⟨41, 32, 41, 38⟩ (.of (.attr 114 (.var 0 ⟨41, 42, 41, 46⟩) "columns" ⟨41, 42, 41, 54⟩)) [] { kind := .function, names := [(PySem.Str.ofString ".0", .local), (PySem.Str.ofString "column", .local), (PySem.Str.ofString "row", .free)], isGenerator := false, isCoroutine := false, more := [] } [2] ⟨41, 15, 41, 55⟩) (.list false [(.var 1 ⟨41, 59, 41, 65⟩)] ⟨41, 58, 41, 66⟩) ⟨41, 15, 41, 66⟩) ⟨41, 8, 41, 66⟩]

noncomputable def nm_Kept_put : Nat → Str
  | 0 => PySem.Str.ofString "self"
  | 1 => PySem.Str.ofString "number"
  | 2 => PySem.Str.ofString "row"
  | 3 => PySem.Str.ofString "entry"
  | _ => ""

noncomputable def p_Kept_put : List PS := [.assign 3 ⟨44, 8, 44, 13⟩ (.meth 114 7 (.var 0 ⟨44, 16, 44, 20⟩) "entry_of" ⟨44, 16, 44, 29⟩ [(.var 1 ⟨44, 30, 44, 36⟩), (.var 2 ⟨44, 38, 44, 41⟩)] ⟨44, 16, 44, 42⟩) ⟨44, 8, 44, 42⟩,
    .expr (.lm .insert (.attr 114 (.var 0 ⟨45, 8, 45, 12⟩) "entries" ⟨45, 8, 45, 20⟩) ⟨45, 8, 45, 27⟩ [(.call 8 ⟨45, 28, 45, 33⟩ [(.attr 114 (.var 0 ⟨45, 34, 45, 38⟩) "entries" ⟨45, 34, 45, 46⟩), (.var 3 ⟨45, 48, 45, 53⟩)] ⟨45, 28, 45, 54⟩), (.var 3 ⟨45, 56, 45, 61⟩)] ⟨45, 8, 45, 62⟩) ⟨45, 8, 45, 62⟩]

noncomputable def nm_Kept_bounds : Nat → Str
  | 0 => PySem.Str.ofString "self"
  | 1 => PySem.Str.ofString "wish"
  | 2 => PySem.Str.ofString "asked"
  | 3 => PySem.Str.ofString "pinned"
  | 4 => PySem.Str.ofString "column"
  | 5 => PySem.Str.ofString "triple"
  | _ => ""

noncomputable def p_Kept_bounds : List PS := [.assign 2 ⟨54, 8, 54, 13⟩ (.call 9 ⟨54, 16, 54, 22⟩ [(.var 1 ⟨54, 23, 54, 27⟩)] ⟨54, 16, 54, 28⟩) ⟨54, 8, 54, 28⟩,
    .assign 3 ⟨55, 8, 55, 14⟩ (.list true [] ⟨55, 17, 55, 19⟩) ⟨55, 8, 55, 19⟩,
    .loop 4 ⟨56, 12, 56, 18⟩ (.of (.attr 114 (.var 0 ⟨56, 22, 56, 26⟩) "columns" ⟨56, 22, 56, 34⟩)) [.assign 5 ⟨57, 12, 57, 18⟩ (.call 10 ⟨57, 21, 57, 30⟩ [(.var 2 ⟨57, 31, 57, 36⟩), (.var 4 ⟨57, 38, 57, 44⟩)] ⟨57, 21, 57, 45⟩) ⟨57, 12, 57, 45⟩,
    .ite (.bop .Or [(.cmp .Is (.var 5 ⟨58, 15, 58, 21⟩) (.cnone ⟨58, 25, 58, 29⟩) ⟨58, 15, 58, 29⟩), (.cmp .Is (.sub (.var 5 ⟨58, 33, 58, 39⟩) (.cint 1 ⟨58, 40, 58, 41⟩) ⟨58, 33, 58, 42⟩) (.cnone ⟨58, 46, 58, 50⟩) ⟨58, 33, 58, 50⟩), (.cmp .NotEq (.sub (.var 5 ⟨58, 54, 58, 60⟩) (.cint 1 ⟨58, 61, 58, 62⟩) ⟨58, 54, 58, 63⟩) (.sub (.var 5 ⟨58, 67, 58, 73⟩) (.cint 2 ⟨58, 74, 58, 75⟩) ⟨58, 67, 58, 76⟩) ⟨58, 54, 58, 76⟩)] ⟨58, 15, 58, 76⟩) [.ret (.tup [(.var 3 ⟨59, 24, 59, 30⟩), (.var 5 ⟨59, 32, 59, 38⟩)] 0 ⟨59, 23, 59, 39⟩) ⟨59, 16, 59, 39⟩] [] ⟨58, 12, 59, 39⟩,
    .expr (.app (.var 3 ⟨60, 12, 60, 18⟩) ⟨60, 12, 60, 25⟩ (.sub (.var 5 ⟨60, 26, 60, 32⟩) (.cint 1 ⟨60, 33, 60, 34⟩) ⟨60, 26, 60, 35⟩) ⟨60, 12, 60, 36⟩) ⟨60, 12, 60, 36⟩] ⟨56, 8, 60, 36⟩,
    .ret (.tup [(.var 3 ⟨61, 16, 61, 22⟩), (.cnone ⟨61, 24, 61, 28⟩)] 0 ⟨61, 15, 61, 29⟩) ⟨61, 8, 61, 29⟩]

noncomputable def nm_Kept_behind : Nat → Str
  | 0 => PySem.Str.ofString "self"
  | 1 => PySem.Str.ofString "pinned"
  | _ => ""

noncomputable def p_Kept_behind : List PS := [.ite (.cmp .Eq (.var 1 ⟨64, 11, 64, 17⟩) (.list false [] ⟨64, 21, 64, 23⟩) ⟨64, 11, 64, 23⟩) [.ret (.bi .len false 2 ⟨65, 19, 65, 22⟩ [(.attr 114 (.var 0 ⟨65, 23, 65, 27⟩) "entries" ⟨65, 23, 65, 35⟩)] ⟨65, 19, 65, 36⟩) ⟨65, 12, 65, 36⟩] [] ⟨64, 8, 65, 36⟩,
    .ret (.call 8 ⟨66, 15, 66, 20⟩ [(.attr 114 (.var 0 ⟨66, 21, 66, 25⟩) "entries" ⟨66, 21, 66, 33⟩), (.bin .Add (.slc false (.var 1 ⟨66, 35, 66, 41⟩) Option.none (some (.neg (.cint 1 ⟨66, 44, 66, 45⟩) ⟨66, 43, 66, 45⟩)) ⟨66, 42, 66, 45⟩ ⟨66, 35, 66, 46⟩) (.list false [(.bin .Add (.sub (.var 1 ⟨66, 50, 66, 56⟩) (.neg (.cint 1 ⟨66, 58, 66, 59⟩) ⟨66, 57, 66, 59⟩) ⟨66, 50, 66, 60⟩) (.cint 1 ⟨66, 63, 66, 64⟩) ⟨66, 50, 66, 64⟩)] ⟨66, 49, 66, 65⟩) ⟨66, 35, 66, 65⟩)] ⟨66, 15, 66, 66⟩) ⟨66, 8, 66, 66⟩]

noncomputable def nm_Kept_stretch : Nat → Str
  | 0 => PySem.Str.ofString "self"
  | 1 => PySem.Str.ofString "wish"
  | 2 => PySem.Str.ofString "found"
  | 3 => PySem.Str.ofString "pinned"
  | 4 => PySem.Str.ofString "ranged"
  | 5 => PySem.Str.ofString "start"
  | 6 => PySem.Str.ofString "end"
  | 7 => PySem.Str.ofString "at"
  | _ => ""

noncomputable def p_Kept_stretch : List PS := [.assign 2 ⟨69, 8, 69, 13⟩ (.meth 114 11 (.var 0 ⟨69, 16, 69, 20⟩) "bounds" ⟨69, 16, 69, 27⟩ [(.var 1 ⟨69, 28, 69, 32⟩)] ⟨69, 16, 69, 33⟩) ⟨69, 8, 69, 33⟩,
    .assign 3 ⟨70, 8, 70, 14⟩ (.sub (.var 2 ⟨70, 17, 70, 22⟩) (.cint 0 ⟨70, 23, 70, 24⟩) ⟨70, 17, 70, 25⟩) ⟨70, 8, 70, 25⟩,
    .assign 4 ⟨71, 8, 71, 14⟩ (.sub (.var 2 ⟨71, 17, 71, 22⟩) (.cint 1 ⟨71, 23, 71, 24⟩) ⟨71, 17, 71, 25⟩) ⟨71, 8, 71, 25⟩,
    .assign 5 ⟨72, 8, 72, 13⟩ (.call 8 ⟨72, 16, 72, 21⟩ [(.attr 114 (.var 0 ⟨72, 22, 72, 26⟩) "entries" ⟨72, 22, 72, 34⟩), (.var 3 ⟨72, 36, 72, 42⟩)] ⟨72, 16, 72, 43⟩) ⟨72, 8, 72, 43⟩,
    .assign 6 ⟨73, 8, 73, 11⟩ (.meth 114 12 (.var 0 ⟨73, 14, 73, 18⟩) "behind" ⟨73, 14, 73, 25⟩ [(.var 3 ⟨73, 26, 73, 32⟩)] ⟨73, 14, 73, 33⟩) ⟨73, 8, 73, 33⟩,
    .ite (.bop .And [(.cmp .IsNot (.var 4 ⟨74, 11, 74, 17⟩) (.cnone ⟨74, 25, 74, 29⟩) ⟨74, 11, 74, 29⟩), (.cmp .IsNot (.sub (.var 4 ⟨74, 34, 74, 40⟩) (.cint 1 ⟨74, 41, 74, 42⟩) ⟨74, 34, 74, 43⟩) (.cnone ⟨74, 51, 74, 55⟩) ⟨74, 34, 74, 55⟩)] ⟨74, 11, 74, 55⟩) [.assign 5 ⟨75, 12, 75, 17⟩ (.call 8 ⟨75, 20, 75, 25⟩ [(.attr 114 (.var 0 ⟨75, 26, 75, 30⟩) "entries" ⟨75, 26, 75, 38⟩), (.bin .Add (.var 3 ⟨75, 40, 75, 46⟩) (.list false [(.sub (.var 4 ⟨75, 50, 75, 56⟩) (.cint 1 ⟨75, 57, 75, 58⟩) ⟨75, 50, 75, 59⟩)] ⟨75, 49, 75, 60⟩) ⟨75, 40, 75, 60⟩)] ⟨75, 20, 75, 61⟩) ⟨75, 12, 75, 61⟩] [] ⟨74, 8, 75, 61⟩,
    .ite (.bop .And [(.cmp .IsNot (.var 4 ⟨76, 11, 76, 17⟩) (.cnone ⟨76, 25, 76, 29⟩) ⟨76, 11, 76, 29⟩), (.cmp .IsNot (.sub (.var 4 ⟨76, 34, 76, 40⟩) (.cint 2 ⟨76, 41, 76, 42⟩) ⟨76, 34, 76, 43⟩) (.cnone ⟨76, 51, 76, 55⟩) ⟨76, 34, 76, 55⟩)] ⟨76, 11, 76, 55⟩) [.assign 6 ⟨77, 12, 77, 15⟩ (.call 8 ⟨77, 18, 77, 23⟩ [(.attr 114 (.var 0 ⟨77, 24, 77, 28⟩) "entries" ⟨77, 24, 77, 36⟩), (.bin .Add (.var 3 ⟨77, 38, 77, 44⟩) (.list false [(.bin .Add (.sub (.var 4 ⟨77, 48, 77, 54⟩) (.cint 2 ⟨77, 55, 77, 56⟩) ⟨77, 48, 77, 57⟩) (.cint 1 ⟨77, 60, 77, 61⟩) ⟨77, 48, 77, 61⟩)] ⟨77, 47, 77, 62⟩) ⟨77, 38, 77, 62⟩)] ⟨77, 18, 77, 63⟩) ⟨77, 12, 77, 63⟩] [] ⟨76, 8, 77, 63⟩,
    .ret (.comp true (.sub (.sub (.attr 114 (.var 0 ⟨78, 16, 78, 20⟩) "entries" ⟨78, 16, 78, 28⟩) (.var 7 ⟨78, 29, 78, 31⟩) ⟨78, 16, 78, 32⟩) (.neg (.cint 1 ⟨78, 34, 78, 35⟩) ⟨78, 33, 78, 35⟩) ⟨78, 16, 78, 36⟩) 7 ⟨78, 41, 78, 43⟩ (.range2 0 ⟨78, 47, 78, 52⟩ (.var 5 ⟨78, 53, 78, 58⟩) (.var 6 ⟨78, 60, 78, 63⟩) ⟨78, 47, 78, 64⟩) [] { kind := .function, names := [(PySem.Str.ofString ".0", .local), (PySem.Str.ofString "at", .local), (PySem.Str.ofString "self", .free)], isGenerator := false, isCoroutine := false, more := [] } [0] ⟨78, 15, 78, 65⟩) ⟨78, 8, 78, 65⟩]

noncomputable def nm_Kept_covers : Nat → Str
  | 0 => PySem.Str.ofString "self"
  | 1 => PySem.Str.ofString "wish"
  | 2 => PySem.Str.ofString "triple"
  | _ => ""

noncomputable def p_Kept_covers : List PS := [.loop 2 ⟨81, 12, 81, 18⟩ (.of (.var 1 ⟨81, 22, 81, 26⟩)) [.ite (.cmp .NotIn (.sub (.var 2 ⟨82, 15, 82, 21⟩) (.cint 0 ⟨82, 22, 82, 23⟩) ⟨82, 15, 82, 24⟩) (.attr 114 (.var 0 ⟨82, 32, 82, 36⟩) "columns" ⟨82, 32, 82, 44⟩) ⟨82, 15, 82, 44⟩) [.ret (.cbool false ⟨83, 23, 83, 28⟩) ⟨83, 16, 83, 28⟩] [] ⟨82, 12, 83, 28⟩] ⟨81, 8, 83, 28⟩,
    .ret (.cbool true ⟨84, 15, 84, 19⟩) ⟨84, 8, 84, 19⟩]

noncomputable def nm_law_whole : Nat → Str
  | 0 => PySem.Str.ofString "_law_found"
  | _ => ""

noncomputable def p_law_whole : List PS := [.ret (.bop .And [(.isi (.var 0 ⟨87, 22, 87, 32⟩) .int 13 ⟨87, 11, 87, 21⟩ 14 ⟨87, 34, 87, 37⟩ ⟨87, 11, 87, 38⟩), (.not (.isi (.var 0 ⟨87, 59, 87, 69⟩) .bool 13 ⟨87, 48, 87, 58⟩ 15 ⟨87, 71, 87, 75⟩ ⟨87, 48, 87, 76⟩) ⟨87, 44, 87, 76⟩)] ⟨87, 11, 87, 77⟩) ⟨87, 4, 87, 77⟩]

noncomputable def nm_law_at : Nat → Str
  | 0 => PySem.Str.ofString "_law_script"
  | 1 => PySem.Str.ofString "_law_k"
  | _ => ""

noncomputable def p_law_at : List PS := [.ite (.cmp .Lt (.var 1 ⟨89, 7, 89, 13⟩) (.bi .len false 2 ⟨89, 16, 89, 19⟩ [(.var 0 ⟨89, 20, 89, 31⟩)] ⟨89, 16, 89, 32⟩) ⟨89, 7, 89, 32⟩) [.ret (.sub (.var 0 ⟨90, 15, 90, 26⟩) (.var 1 ⟨90, 27, 90, 33⟩) ⟨90, 15, 90, 34⟩) ⟨90, 8, 90, 34⟩] [] ⟨89, 4, 90, 34⟩,
    .ret (.cint 0 ⟨91, 11, 91, 12⟩) ⟨91, 4, 91, 12⟩]

noncomputable def nm_law_value : Nat → Str
  | 0 => PySem.Str.ofString "_law_cell"
  | _ => ""

noncomputable def p_law_value : List PS := [.ite (.cmp .Eq (.bin .Mod (.var 0 ⟨93, 7, 93, 16⟩) (.cint 16 ⟨93, 19, 93, 21⟩) ⟨93, 7, 93, 21⟩) (.cint 0 ⟨93, 25, 93, 26⟩) ⟨93, 7, 93, 26⟩) [.ret (.bin .Sub (.bin .Pow (.cint 10 ⟨94, 15, 94, 17⟩) (.cint 30 ⟨94, 21, 94, 23⟩) ⟨94, 15, 94, 23⟩) (.bin .Mod (.bin .FloorDiv (.var 0 ⟨94, 26, 94, 35⟩) (.cint 16 ⟨94, 39, 94, 41⟩) ⟨94, 26, 94, 41⟩) (.cint 3 ⟨94, 44, 94, 45⟩) ⟨94, 26, 94, 45⟩) ⟨94, 15, 94, 45⟩) ⟨94, 8, 94, 45⟩] [] ⟨93, 4, 94, 45⟩,
    .ite (.cmp .Eq (.bin .Mod (.var 0 ⟨95, 7, 95, 16⟩) (.cint 16 ⟨95, 19, 95, 21⟩) ⟨95, 7, 95, 21⟩) (.cint 1 ⟨95, 25, 95, 26⟩) ⟨95, 7, 95, 26⟩) [.ret (.bin .Sub (.bin .Mod (.bin .FloorDiv (.var 0 ⟨96, 15, 96, 24⟩) (.cint 16 ⟨96, 28, 96, 30⟩) ⟨96, 15, 96, 30⟩) (.cint 3 ⟨96, 33, 96, 34⟩) ⟨96, 15, 96, 34⟩) (.bin .Pow (.cint 10 ⟨96, 37, 96, 39⟩) (.cint 30 ⟨96, 43, 96, 45⟩) ⟨96, 37, 96, 45⟩) ⟨96, 15, 96, 45⟩) ⟨96, 8, 96, 45⟩] [] ⟨95, 4, 96, 45⟩,
    .ite (.cmp .Lt (.bin .Mod (.var 0 ⟨97, 7, 97, 16⟩) (.cint 16 ⟨97, 19, 97, 21⟩) ⟨97, 7, 97, 21⟩) (.cint 4 ⟨97, 24, 97, 25⟩) ⟨97, 7, 97, 25⟩) [.ret (.bin .Sub (.bin .Mod (.bin .FloorDiv (.var 0 ⟨98, 15, 98, 24⟩) (.cint 16 ⟨98, 28, 98, 30⟩) ⟨98, 15, 98, 30⟩) (.cint 2003 ⟨98, 33, 98, 37⟩) ⟨98, 15, 98, 37⟩) (.cint 1001 ⟨98, 40, 98, 44⟩) ⟨98, 15, 98, 44⟩) ⟨98, 8, 98, 44⟩] [] ⟨97, 4, 98, 44⟩,
    .ite (.cmp .Lt (.bin .Mod (.var 0 ⟨99, 7, 99, 16⟩) (.cint 16 ⟨99, 19, 99, 21⟩) ⟨99, 7, 99, 21⟩) (.cint 6 ⟨99, 24, 99, 25⟩) ⟨99, 7, 99, 25⟩) [.ret (.bin .Sub (.bin .Mod (.bin .FloorDiv (.var 0 ⟨100, 15, 100, 24⟩) (.cint 16 ⟨100, 28, 100, 30⟩) ⟨100, 15, 100, 30⟩) (.bin .Mult (.cint 2 ⟨100, 34, 100, 35⟩) (.bin .Pow (.cint 10 ⟨100, 38, 100, 40⟩) (.cint 30 ⟨100, 44, 100, 46⟩) ⟨100, 38, 100, 46⟩) ⟨100, 34, 100, 46⟩) ⟨100, 15, 100, 47⟩) (.bin .Pow (.cint 10 ⟨100, 50, 100, 52⟩) (.cint 30 ⟨100, 56, 100, 58⟩) ⟨100, 50, 100, 58⟩) ⟨100, 15, 100, 58⟩) ⟨100, 8, 100, 58⟩] [] ⟨99, 4, 100, 58⟩,
    .ite (.cmp .Eq (.bin .Mod (.var 0 ⟨101, 7, 101, 16⟩) (.cint 16 ⟨101, 19, 101, 21⟩) ⟨101, 7, 101, 21⟩) (.cint 6 ⟨101, 25, 101, 26⟩) ⟨101, 7, 101, 26⟩) [.ret (.bin .Mod (.bin .FloorDiv (.var 0 ⟨102, 15, 102, 24⟩) (.cint 16 ⟨102, 28, 102, 30⟩) ⟨102, 15, 102, 30⟩) (.bin .Pow (.cint 10 ⟨102, 33, 102, 35⟩) (.cint 40 ⟨102, 39, 102, 41⟩) ⟨102, 33, 102, 41⟩) ⟨102, 15, 102, 41⟩) ⟨102, 8, 102, 41⟩] [] ⟨101, 4, 102, 41⟩,
    .ite (.cmp .Lt (.bin .Mod (.var 0 ⟨103, 7, 103, 16⟩) (.cint 16 ⟨103, 19, 103, 21⟩) ⟨103, 7, 103, 21⟩) (.cint 10 ⟨103, 24, 103, 26⟩) ⟨103, 7, 103, 26⟩) [.ret (.bin .Sub (.bin .Mod (.bin .FloorDiv (.var 0 ⟨104, 15, 104, 24⟩) (.cint 16 ⟨104, 28, 104, 30⟩) ⟨104, 15, 104, 30⟩) (.cint 60 ⟨104, 33, 104, 35⟩) ⟨104, 15, 104, 35⟩) (.cint 20 ⟨104, 38, 104, 40⟩) ⟨104, 15, 104, 40⟩) ⟨104, 8, 104, 40⟩] [] ⟨103, 4, 104, 40⟩,
    .ret (.bin .Mod (.bin .FloorDiv (.var 0 ⟨105, 11, 105, 20⟩) (.cint 16 ⟨105, 24, 105, 26⟩) ⟨105, 11, 105, 26⟩) (.cint 3 ⟨105, 29, 105, 30⟩) ⟨105, 11, 105, 30⟩) ⟨105, 4, 105, 30⟩]

noncomputable def nm_law_row : Nat → Str
  | 0 => PySem.Str.ofString "_law_cell"
  | 1 => PySem.Str.ofString "_law_width"
  | 2 => PySem.Str.ofString "_law_k"
  | _ => ""

noncomputable def p_law_row : List PS := [.ret (.comp false (.call 16 ⟨107, 12, 107, 22⟩ [(.bin .FloorDiv (.bin .Pow (.bin .Add (.bin .Mult (.var 0 ⟨107, 24, 107, 33⟩) (.cint 48271 ⟨107, 36, 107, 41⟩) ⟨107, 24, 107, 41⟩) (.bin .Mult (.cint 7919 ⟨107, 44, 107, 48⟩) (.var 2 ⟨107, 51, 107, 57⟩) ⟨107, 44, 107, 57⟩) ⟨107, 24, 107, 57⟩) (.cint 3 ⟨107, 62, 107, 63⟩) ⟨107, 23, 107, 63⟩) (.cint 11 ⟨107, 67, 107, 69⟩) ⟨107, 23, 107, 69⟩)] ⟨107, 12, 107, 70⟩) 2 ⟨107, 75, 107, 81⟩ (.range 0 ⟨107, 85, 107, 90⟩ (.var 1 ⟨107, 91, 107, 101⟩) ⟨107, 85, 107, 102⟩) [] { kind := .function, names := [(PySem.Str.ofString ".0", .local), (PySem.Str.ofString "_law_k", .local), (PySem.Str.ofString "_law_value", .globalImplicit), (PySem.Str.ofString "_law_cell", .free)], isGenerator := false, isCoroutine := false, more := [] } [0] ⟨107, 11, 107, 103⟩) ⟨107, 4, 107, 103⟩]

noncomputable def nm_law_order : Nat → Str
  | 0 => PySem.Str.ofString "_law_cell"
  | 1 => PySem.Str.ofString "_law_width"
  | 2 => PySem.Str.ofString "_law_more"
  | 3 => PySem.Str.ofString "_law_left"
  | 4 => PySem.Str.ofString "_law_order_here"
  | 5 => PySem.Str.ofString "_law_k"
  | _ => ""

noncomputable def p_law_order : List PS := [.assign 2 ⟨109, 4, 109, 13⟩ (.bin .Mod (.bin .Mult (.var 0 ⟨109, 16, 109, 25⟩) (.cint 48271 ⟨109, 28, 109, 33⟩) ⟨109, 16, 109, 33⟩) (.cint 10007 ⟨109, 36, 109, 41⟩) ⟨109, 16, 109, 41⟩) ⟨109, 4, 109, 41⟩,
    .assign 3 ⟨110, 4, 110, 13⟩ (.lrange true 17 ⟨110, 16, 110, 20⟩ 0 ⟨110, 21, 110, 26⟩ (.var 1 ⟨110, 27, 110, 37⟩) ⟨110, 21, 110, 38⟩ ⟨110, 16, 110, 39⟩) ⟨110, 4, 110, 39⟩,
    .assign 4 ⟨111, 4, 111, 19⟩ (.list true [] ⟨111, 22, 111, 24⟩) ⟨111, 4, 111, 24⟩,
    .loop 5 ⟨112, 8, 112, 14⟩ (.range 0 ⟨112, 18, 112, 23⟩ (.bin .Add (.cint 1 ⟨112, 24, 112, 25⟩) (.bin .Mod (.var 0 ⟨112, 28, 112, 37⟩) (.var 1 ⟨112, 40, 112, 50⟩) ⟨112, 28, 112, 50⟩) ⟨112, 24, 112, 50⟩) ⟨112, 18, 112, 51⟩) [.expr (.app (.var 4 ⟨113, 8, 113, 23⟩) ⟨113, 8, 113, 30⟩ (.lm .pop (.var 3 ⟨113, 31, 113, 40⟩) ⟨113, 31, 113, 44⟩ [(.bin .Mod (.var 2 ⟨113, 45, 113, 54⟩) (.bi .len false 2 ⟨113, 57, 113, 60⟩ [(.var 3 ⟨113, 61, 113, 70⟩)] ⟨113, 57, 113, 71⟩) ⟨113, 45, 113, 71⟩)] ⟨113, 31, 113, 72⟩) ⟨113, 8, 113, 73⟩) ⟨113, 8, 113, 73⟩,
    .assign 2 ⟨114, 8, 114, 17⟩ (.bin .FloorDiv (.var 2 ⟨114, 20, 114, 29⟩) (.cint 3 ⟨114, 33, 114, 34⟩) ⟨114, 20, 114, 34⟩) ⟨114, 8, 114, 34⟩] ⟨112, 4, 114, 34⟩,
    .ret (.bi .tupleA false 18 ⟨115, 11, 115, 16⟩ [(.var 4 ⟨115, 17, 115, 32⟩)] ⟨115, 11, 115, 33⟩) ⟨115, 4, 115, 33⟩]

noncomputable def nm_law_triple : Nat → Str
  | 0 => PySem.Str.ofString "_law_cell"
  | 1 => PySem.Str.ofString "_law_width"
  | 2 => PySem.Str.ofString "_law_rows"
  | 3 => PySem.Str.ofString "_law_column"
  | 4 => PySem.Str.ofString "_law_low"
  | 5 => PySem.Str.ofString "_law_high"
  | 6 => PySem.Str.ofString "_law_near"
  | 7 => PySem.Str.ofString "_law_way"
  | _ => ""

noncomputable def p_law_triple : List PS := [.assign 3 ⟨117, 4, 117, 15⟩ (.bin .Mod (.bin .FloorDiv (.var 0 ⟨117, 18, 117, 27⟩) (.cint 8 ⟨117, 31, 117, 32⟩) ⟨117, 18, 117, 32⟩) (.var 1 ⟨117, 35, 117, 45⟩) ⟨117, 18, 117, 45⟩) ⟨117, 4, 117, 45⟩,
    .assign 4 ⟨118, 4, 118, 12⟩ (.call 16 ⟨118, 15, 118, 25⟩ [(.bin .FloorDiv (.bin .Pow (.bin .Add (.bin .Mult (.var 0 ⟨118, 27, 118, 36⟩) (.cint 48271 ⟨118, 39, 118, 44⟩) ⟨118, 27, 118, 44⟩) (.cint 1 ⟨118, 47, 118, 48⟩) ⟨118, 27, 118, 48⟩) (.cint 3 ⟨118, 53, 118, 54⟩) ⟨118, 26, 118, 54⟩) (.cint 11 ⟨118, 58, 118, 60⟩) ⟨118, 26, 118, 60⟩)] ⟨118, 15, 118, 61⟩) ⟨118, 4, 118, 61⟩,
    .assign 5 ⟨119, 4, 119, 13⟩ (.call 16 ⟨119, 16, 119, 26⟩ [(.bin .FloorDiv (.bin .Pow (.bin .Add (.bin .Mult (.var 0 ⟨119, 28, 119, 37⟩) (.cint 48271 ⟨119, 40, 119, 45⟩) ⟨119, 28, 119, 45⟩) (.cint 2 ⟨119, 48, 119, 49⟩) ⟨119, 28, 119, 49⟩) (.cint 3 ⟨119, 54, 119, 55⟩) ⟨119, 27, 119, 55⟩) (.cint 11 ⟨119, 59, 119, 61⟩) ⟨119, 27, 119, 61⟩)] ⟨119, 16, 119, 62⟩) ⟨119, 4, 119, 62⟩,
    .assign 6 ⟨120, 4, 120, 13⟩ (.bin .Mod (.bin .Mult (.var 0 ⟨120, 16, 120, 25⟩) (.cint 48271 ⟨120, 28, 120, 33⟩) ⟨120, 16, 120, 33⟩) (.cint 90001 ⟨120, 36, 120, 41⟩) ⟨120, 16, 120, 41⟩) ⟨120, 4, 120, 41⟩,
    .ite (.bop .And [(.cmp .Gt (.bin .Mod (.var 6 ⟨121, 7, 121, 16⟩) (.cint 3 ⟨121, 19, 121, 20⟩) ⟨121, 7, 121, 20⟩) (.cint 0 ⟨121, 23, 121, 24⟩) ⟨121, 7, 121, 24⟩), (.cmp .Gt (.bi .len false 2 ⟨121, 29, 121, 32⟩ [(.var 2 ⟨121, 33, 121, 42⟩)] ⟨121, 29, 121, 43⟩) (.cint 0 ⟨121, 46, 121, 47⟩) ⟨121, 29, 121, 47⟩)] ⟨121, 7, 121, 47⟩) [.assign 4 ⟨122, 8, 122, 16⟩ (.bin .Sub (.bin .Add (.sub (.sub (.var 2 ⟨122, 19, 122, 28⟩) (.bin .Mod (.bin .FloorDiv (.var 6 ⟨122, 29, 122, 38⟩) (.cint 3 ⟨122, 42, 122, 43⟩) ⟨122, 29, 122, 43⟩) (.bi .len false 2 ⟨122, 46, 122, 49⟩ [(.var 2 ⟨122, 50, 122, 59⟩)] ⟨122, 46, 122, 60⟩) ⟨122, 29, 122, 60⟩) ⟨122, 19, 122, 61⟩) (.var 3 ⟨122, 62, 122, 73⟩) ⟨122, 19, 122, 74⟩) (.bin .Mod (.bin .FloorDiv (.var 6 ⟨122, 77, 122, 86⟩) (.cint 9 ⟨122, 90, 122, 91⟩) ⟨122, 77, 122, 91⟩) (.cint 3 ⟨122, 94, 122, 95⟩) ⟨122, 77, 122, 95⟩) ⟨122, 19, 122, 95⟩) (.cint 1 ⟨122, 98, 122, 99⟩) ⟨122, 19, 122, 99⟩) ⟨122, 8, 122, 99⟩] [] ⟨121, 4, 122, 99⟩,
    .assign 7 ⟨123, 4, 123, 12⟩ (.sub (.list false [(.cint 0 ⟨123, 16, 123, 17⟩), (.cint 0 ⟨123, 19, 123, 20⟩), (.cint 0 ⟨123, 22, 123, 23⟩), (.cint 1 ⟨123, 25, 123, 26⟩), (.cint 2 ⟨123, 28, 123, 29⟩), (.cint 3 ⟨123, 31, 123, 32⟩), (.cint 4 ⟨123, 34, 123, 35⟩), (.cint 0 ⟨123, 37, 123, 38⟩)] ⟨123, 15, 123, 39⟩) (.bin .Mod (.var 0 ⟨123, 40, 123, 49⟩) (.cint 8 ⟨123, 52, 123, 53⟩) ⟨123, 40, 123, 53⟩) ⟨123, 15, 123, 54⟩) ⟨123, 4, 123, 54⟩,
    .ite (.cmp .Eq (.var 7 ⟨124, 7, 124, 15⟩) (.cint 1 ⟨124, 19, 124, 20⟩) ⟨124, 7, 124, 20⟩) [.ret (.tup [(.var 3 ⟨125, 16, 125, 27⟩), (.var 4 ⟨125, 29, 125, 37⟩), (.cnone ⟨125, 39, 125, 43⟩)] 0 ⟨125, 15, 125, 44⟩) ⟨125, 8, 125, 44⟩] [] ⟨124, 4, 125, 44⟩,
    .ite (.cmp .Eq (.var 7 ⟨126, 7, 126, 15⟩) (.cint 2 ⟨126, 19, 126, 20⟩) ⟨126, 7, 126, 20⟩) [.ret (.tup [(.var 3 ⟨127, 16, 127, 27⟩), (.cnone ⟨127, 29, 127, 33⟩), (.var 4 ⟨127, 35, 127, 43⟩)] 0 ⟨127, 15, 127, 44⟩) ⟨127, 8, 127, 44⟩] [] ⟨126, 4, 127, 44⟩,
    .ite (.cmp .Eq (.var 7 ⟨128, 7, 128, 15⟩) (.cint 3 ⟨128, 19, 128, 20⟩) ⟨128, 7, 128, 20⟩) [.ret (.tup [(.var 3 ⟨129, 16, 129, 27⟩), (.cnone ⟨129, 29, 129, 33⟩), (.cnone ⟨129, 35, 129, 39⟩)] 0 ⟨129, 15, 129, 40⟩) ⟨129, 8, 129, 40⟩] [] ⟨128, 4, 129, 40⟩,
    .ite (.bop .And [(.cmp .Eq (.var 7 ⟨130, 7, 130, 15⟩) (.cint 4 ⟨130, 19, 130, 20⟩) ⟨130, 7, 130, 20⟩), (.cmp .Gt (.bin .Mod (.bin .FloorDiv (.var 6 ⟨130, 25, 130, 34⟩) (.cint 27 ⟨130, 38, 130, 40⟩) ⟨130, 25, 130, 40⟩) (.cint 3 ⟨130, 43, 130, 44⟩) ⟨130, 25, 130, 44⟩) (.cint 0 ⟨130, 47, 130, 48⟩) ⟨130, 25, 130, 48⟩)] ⟨130, 7, 130, 48⟩) [.ret (.tup [(.var 3 ⟨131, 16, 131, 27⟩), (.var 4 ⟨131, 29, 131, 37⟩), (.bin .Add (.var 4 ⟨131, 39, 131, 47⟩) (.bin .Mod (.bin .FloorDiv (.var 6 ⟨131, 50, 131, 59⟩) (.cint 81 ⟨131, 63, 131, 65⟩) ⟨131, 50, 131, 65⟩) (.cint 4 ⟨131, 68, 131, 69⟩) ⟨131, 50, 131, 69⟩) ⟨131, 39, 131, 69⟩)] 0 ⟨131, 15, 131, 70⟩) ⟨131, 8, 131, 70⟩] [] ⟨130, 4, 131, 70⟩,
    .ite (.cmp .Eq (.var 7 ⟨132, 7, 132, 15⟩) (.cint 4 ⟨132, 19, 132, 20⟩) ⟨132, 7, 132, 20⟩) [.ret (.tup [(.var 3 ⟨133, 16, 133, 27⟩), (.var 4 ⟨133, 29, 133, 37⟩), (.var 5 ⟨133, 39, 133, 48⟩)] 0 ⟨133, 15, 133, 49⟩) ⟨133, 8, 133, 49⟩] [] ⟨132, 4, 133, 49⟩,
    .ret (.tup [(.var 3 ⟨134, 12, 134, 23⟩), (.var 4 ⟨134, 25, 134, 33⟩), (.var 4 ⟨134, 35, 134, 43⟩)] 0 ⟨134, 11, 134, 44⟩) ⟨134, 4, 134, 44⟩]

noncomputable def nm_law_ends : Nat → Str
  | 0 => PySem.Str.ofString "_law_wish"
  | 1 => PySem.Str.ofString "_law_column"
  | 2 => PySem.Str.ofString "_law_low"
  | 3 => PySem.Str.ofString "_law_high"
  | 4 => PySem.Str.ofString "_law_one"
  | _ => ""

noncomputable def p_law_ends : List PS := [.assign 2 ⟨136, 4, 136, 12⟩ (.cnone ⟨136, 15, 136, 19⟩) ⟨136, 4, 136, 19⟩,
    .assign 3 ⟨137, 4, 137, 13⟩ (.cnone ⟨137, 16, 137, 20⟩) ⟨137, 4, 137, 20⟩,
    .loop 4 ⟨138, 8, 138, 16⟩ (.of (.var 0 ⟨138, 20, 138, 29⟩)) [.ite (.bop .And [(.cmp .Eq (.sub (.var 4 ⟨139, 11, 139, 19⟩) (.cint 0 ⟨139, 20, 139, 21⟩) ⟨139, 11, 139, 22⟩) (.var 1 ⟨139, 26, 139, 37⟩) ⟨139, 11, 139, 37⟩), (.cmp .IsNot (.sub (.var 4 ⟨139, 42, 139, 50⟩) (.cint 1 ⟨139, 51, 139, 52⟩) ⟨139, 42, 139, 53⟩) (.cnone ⟨139, 61, 139, 65⟩) ⟨139, 42, 139, 65⟩), (.bop .Or [(.cmp .Is (.var 2 ⟨139, 71, 139, 79⟩) (.cnone ⟨139, 83, 139, 87⟩) ⟨139, 71, 139, 87⟩), (.cmp .Lt (.var 2 ⟨139, 91, 139, 99⟩) (.sub (.var 4 ⟨139, 102, 139, 110⟩) (.cint 1 ⟨139, 111, 139, 112⟩) ⟨139, 102, 139, 113⟩) ⟨139, 91, 139, 113⟩)] ⟨139, 71, 139, 113⟩)] ⟨139, 11, 139, 114⟩) [.assign 2 ⟨140, 12, 140, 20⟩ (.sub (.var 4 ⟨140, 23, 140, 31⟩) (.cint 1 ⟨140, 32, 140, 33⟩) ⟨140, 23, 140, 34⟩) ⟨140, 12, 140, 34⟩] [] ⟨139, 8, 140, 34⟩,
    .ite (.bop .And [(.cmp .Eq (.sub (.var 4 ⟨141, 11, 141, 19⟩) (.cint 0 ⟨141, 20, 141, 21⟩) ⟨141, 11, 141, 22⟩) (.var 1 ⟨141, 26, 141, 37⟩) ⟨141, 11, 141, 37⟩), (.cmp .IsNot (.sub (.var 4 ⟨141, 42, 141, 50⟩) (.cint 2 ⟨141, 51, 141, 52⟩) ⟨141, 42, 141, 53⟩) (.cnone ⟨141, 61, 141, 65⟩) ⟨141, 42, 141, 65⟩), (.bop .Or [(.cmp .Is (.var 3 ⟨141, 71, 141, 80⟩) (.cnone ⟨141, 84, 141, 88⟩) ⟨141, 71, 141, 88⟩), (.cmp .Lt (.sub (.var 4 ⟨141, 92, 141, 100⟩) (.cint 2 ⟨141, 101, 141, 102⟩) ⟨141, 92, 141, 103⟩) (.var 3 ⟨141, 106, 141, 115⟩) ⟨141, 92, 141, 115⟩)] ⟨141, 71, 141, 115⟩)] ⟨141, 11, 141, 116⟩) [.assign 3 ⟨142, 12, 142, 21⟩ (.sub (.var 4 ⟨142, 24, 142, 32⟩) (.cint 2 ⟨142, 33, 142, 34⟩) ⟨142, 24, 142, 35⟩) ⟨142, 12, 142, 35⟩] [] ⟨141, 8, 142, 35⟩] ⟨138, 4, 142, 35⟩,
    .ret (.tup [(.var 2 ⟨143, 12, 143, 20⟩), (.var 3 ⟨143, 22, 143, 31⟩)] 0 ⟨143, 11, 143, 32⟩) ⟨143, 4, 143, 32⟩]

noncomputable def nm_law_between : Nat → Str
  | 0 => PySem.Str.ofString "_law_value_here"
  | 1 => PySem.Str.ofString "_law_pair"
  | _ => ""

noncomputable def p_law_between : List PS := [.ite (.bop .And [(.cmp .IsNot (.sub (.var 1 ⟨145, 7, 145, 16⟩) (.cint 0 ⟨145, 17, 145, 18⟩) ⟨145, 7, 145, 19⟩) (.cnone ⟨145, 27, 145, 31⟩) ⟨145, 7, 145, 31⟩), (.cmp .Lt (.var 0 ⟨145, 36, 145, 51⟩) (.sub (.var 1 ⟨145, 54, 145, 63⟩) (.cint 0 ⟨145, 64, 145, 65⟩) ⟨145, 54, 145, 66⟩) ⟨145, 36, 145, 66⟩)] ⟨145, 7, 145, 66⟩) [.ret (.cbool false ⟨146, 15, 146, 20⟩) ⟨146, 8, 146, 20⟩] [] ⟨145, 4, 146, 20⟩,
    .ret (.bop .Or [(.cmp .Is (.sub (.var 1 ⟨147, 11, 147, 20⟩) (.cint 1 ⟨147, 21, 147, 22⟩) ⟨147, 11, 147, 23⟩) (.cnone ⟨147, 27, 147, 31⟩) ⟨147, 11, 147, 31⟩), (.cmp .LtE (.var 0 ⟨147, 35, 147, 50⟩) (.sub (.var 1 ⟨147, 54, 147, 63⟩) (.cint 1 ⟨147, 64, 147, 65⟩) ⟨147, 54, 147, 66⟩) ⟨147, 35, 147, 66⟩)] ⟨147, 11, 147, 66⟩) ⟨147, 4, 147, 66⟩]

noncomputable def nm_law_in_stretch : Nat → Str
  | 0 => PySem.Str.ofString "_law_row_here"
  | 1 => PySem.Str.ofString "_law_columns"
  | 2 => PySem.Str.ofString "_law_wish"
  | 3 => PySem.Str.ofString "_law_column"
  | 4 => PySem.Str.ofString "_law_pair"
  | _ => ""

noncomputable def p_law_in_stretch : List PS := [.loop 3 ⟨149, 8, 149, 19⟩ (.of (.var 1 ⟨149, 23, 149, 35⟩)) [.assign 4 ⟨150, 8, 150, 17⟩ (.call 19 ⟨150, 20, 150, 29⟩ [(.var 2 ⟨150, 30, 150, 39⟩), (.var 3 ⟨150, 41, 150, 52⟩)] ⟨150, 20, 150, 53⟩) ⟨150, 8, 150, 53⟩,
    .ite (.bop .Or [(.cmp .Is (.sub (.var 4 ⟨151, 11, 151, 20⟩) (.cint 0 ⟨151, 21, 151, 22⟩) ⟨151, 11, 151, 23⟩) (.cnone ⟨151, 27, 151, 31⟩) ⟨151, 11, 151, 31⟩), (.cmp .NotEq (.sub (.var 4 ⟨151, 35, 151, 44⟩) (.cint 0 ⟨151, 45, 151, 46⟩) ⟨151, 35, 151, 47⟩) (.sub (.var 4 ⟨151, 51, 151, 60⟩) (.cint 1 ⟨151, 61, 151, 62⟩) ⟨151, 51, 151, 63⟩) ⟨151, 35, 151, 63⟩)] ⟨151, 11, 151, 63⟩) [.ret (.call 20 ⟨152, 19, 152, 31⟩ [(.sub (.var 0 ⟨152, 32, 152, 45⟩) (.var 3 ⟨152, 46, 152, 57⟩) ⟨152, 32, 152, 58⟩), (.var 4 ⟨152, 60, 152, 69⟩)] ⟨152, 19, 152, 70⟩) ⟨152, 12, 152, 70⟩] [] ⟨151, 8, 152, 70⟩,
    .ite (.cmp .NotEq (.sub (.var 0 ⟨153, 11, 153, 24⟩) (.var 3 ⟨153, 25, 153, 36⟩) ⟨153, 11, 153, 37⟩) (.sub (.var 4 ⟨153, 41, 153, 50⟩) (.cint 0 ⟨153, 51, 153, 52⟩) ⟨153, 41, 153, 53⟩) ⟨153, 11, 153, 53⟩) [.ret (.cbool false ⟨154, 19, 154, 24⟩) ⟨154, 12, 154, 24⟩] [] ⟨153, 8, 154, 24⟩] ⟨149, 4, 154, 24⟩,
    .ret (.cbool true ⟨155, 11, 155, 15⟩) ⟨155, 4, 155, 15⟩]

noncomputable def nm_law_ahead : Nat → Str
  | 0 => PySem.Str.ofString "_law_one"
  | 1 => PySem.Str.ofString "_law_other"
  | 2 => PySem.Str.ofString "_law_k"
  | _ => ""

noncomputable def p_law_ahead : List PS := [.loop 2 ⟨157, 8, 157, 14⟩ (.range 0 ⟨157, 18, 157, 23⟩ (.bi .min2 false 1 ⟨157, 24, 157, 27⟩ [(.bi .len false 2 ⟨157, 28, 157, 31⟩ [(.var 0 ⟨157, 32, 157, 40⟩)] ⟨157, 28, 157, 41⟩), (.bi .len false 2 ⟨157, 43, 157, 46⟩ [(.var 1 ⟨157, 47, 157, 57⟩)] ⟨157, 43, 157, 58⟩)] ⟨157, 24, 157, 59⟩) ⟨157, 18, 157, 60⟩) [.ite (.cmp .NotEq (.sub (.var 0 ⟨158, 11, 158, 19⟩) (.var 2 ⟨158, 20, 158, 26⟩) ⟨158, 11, 158, 27⟩) (.sub (.var 1 ⟨158, 31, 158, 41⟩) (.var 2 ⟨158, 42, 158, 48⟩) ⟨158, 31, 158, 49⟩) ⟨158, 11, 158, 49⟩) [.ret (.cmp .Lt (.sub (.var 0 ⟨159, 19, 159, 27⟩) (.var 2 ⟨159, 28, 159, 34⟩) ⟨159, 19, 159, 35⟩) (.sub (.var 1 ⟨159, 38, 159, 48⟩) (.var 2 ⟨159, 49, 159, 55⟩) ⟨159, 38, 159, 56⟩) ⟨159, 19, 159, 56⟩) ⟨159, 12, 159, 56⟩] [] ⟨158, 8, 159, 56⟩] ⟨157, 4, 159, 56⟩,
    .ret (.cmp .Lt (.bi .len false 2 ⟨160, 11, 160, 14⟩ [(.var 0 ⟨160, 15, 160, 23⟩)] ⟨160, 11, 160, 24⟩) (.bi .len false 2 ⟨160, 27, 160, 30⟩ [(.var 1 ⟨160, 31, 160, 41⟩)] ⟨160, 27, 160, 42⟩) ⟨160, 11, 160, 42⟩) ⟨160, 4, 160, 42⟩]

noncomputable def nm_law_in_order : Nat → Str
  | 0 => PySem.Str.ofString "_law_found"
  | 1 => PySem.Str.ofString "_law_rows"
  | 2 => PySem.Str.ofString "_law_columns"
  | 3 => PySem.Str.ofString "_law_last"
  | 4 => PySem.Str.ofString "_law_number"
  | 5 => PySem.Str.ofString "_law_entry"
  | 6 => PySem.Str.ofString "_law_column"
  | _ => ""

noncomputable def p_law_in_order : List PS := [.assign 3 ⟨162, 4, 162, 13⟩ (.cnone ⟨162, 16, 162, 20⟩) ⟨162, 4, 162, 20⟩,
    .loop 4 ⟨163, 8, 163, 19⟩ (.of (.var 0 ⟨163, 23, 163, 33⟩)) [.ite (.bop .Or [(.not (.call 21 ⟨164, 15, 164, 25⟩ [(.var 4 ⟨164, 26, 164, 37⟩)] ⟨164, 15, 164, 38⟩) ⟨164, 11, 164, 38⟩), (.not (.cmp2 .LtE .Lt (.cint 0 ⟨164, 46, 164, 47⟩) (.var 4 ⟨164, 51, 164, 62⟩) (.bi .len false 2 ⟨164, 65, 164, 68⟩ [(.var 1 ⟨164, 69, 164, 78⟩)] ⟨164, 65, 164, 79⟩) ⟨164, 46, 164, 79⟩) ⟨164, 42, 164, 79⟩)] ⟨164, 11, 164, 79⟩) [.ret (.cbool false ⟨165, 19, 165, 24⟩) ⟨165, 12, 165, 24⟩] [] ⟨164, 8, 165, 24⟩,
    .assign 5 ⟨166, 8, 166, 18⟩ (.bin .Add (.comp false (.sub (.sub (.var 1 ⟨166, 22, 166, 31⟩) (.var 4 ⟨166, 32, 166, 43⟩) ⟨166, 22, 166, 44⟩) (.var 6 ⟨166, 45, 166, 56⟩) ⟨166, 22, 166, 57⟩) 6 ⟨166, 62, 166, 73⟩ (.of (.var 2 ⟨166, 77, 166, 89⟩)) [] { kind := .function, names := [(PySem.Str.ofString ".0", .local), (PySem.Str.ofString "_law_column", .local), (PySem.Str.ofString "_law_number", .free), (PySem.Str.ofString "_law_rows", .free)], isGenerator := false, isCoroutine := false, more := [] } [4, 1] ⟨166, 21, 166, 90⟩) (.list false [(.var 4 ⟨166, 94, 166, 105⟩)] ⟨166, 93, 166, 106⟩) ⟨166, 21, 166, 106⟩) ⟨166, 8, 166, 106⟩,
    .ite (.bop .And [(.cmp .IsNot (.var 3 ⟨167, 11, 167, 20⟩) (.cnone ⟨167, 28, 167, 32⟩) ⟨167, 11, 167, 32⟩), (.not (.call 22 ⟨167, 42, 167, 52⟩ [(.var 3 ⟨167, 53, 167, 62⟩), (.var 5 ⟨167, 64, 167, 74⟩)] ⟨167, 42, 167, 75⟩) ⟨167, 38, 167, 75⟩)] ⟨167, 11, 167, 76⟩) [.ret (.cbool false ⟨168, 19, 168, 24⟩) ⟨168, 12, 168, 24⟩] [] ⟨167, 8, 168, 24⟩,
    .assign 3 ⟨169, 8, 169, 17⟩ (.var 5 ⟨169, 20, 169, 30⟩) ⟨169, 8, 169, 30⟩] ⟨163, 4, 169, 30⟩,
    .ret (.cbool true ⟨170, 11, 170, 15⟩) ⟨170, 4, 170, 15⟩]

noncomputable def nm_law_good : Nat → Str
  | 0 => PySem.Str.ofString "_law_kept"
  | 1 => PySem.Str.ofString "_law_rows"
  | 2 => PySem.Str.ofString "_law_columns"
  | 3 => PySem.Str.ofString "_law_wish"
  | 4 => PySem.Str.ofString "_law_handed"
  | 5 => PySem.Str.ofString "_law_found"
  | 6 => PySem.Str.ofString "_law_covers"
  | 7 => PySem.Str.ofString "_law_due"
  | 8 => PySem.Str.ofString "_law_one"
  | 9 => PySem.Str.ofString "_law_number"
  | _ => ""

noncomputable def p_law_good : List PS := [.assign 4 ⟨172, 4, 172, 15⟩ (.bi .list false 17 ⟨172, 18, 172, 22⟩ [(.var 3 ⟨172, 23, 172, 32⟩)] ⟨172, 18, 172, 33⟩) ⟨172, 4, 172, 33⟩,
    .assign 5 ⟨173, 4, 173, 14⟩ (.meth 114 23 (.var 0 ⟨173, 17, 173, 26⟩) "stretch" ⟨173, 17, 173, 34⟩ [(.var 4 ⟨173, 35, 173, 46⟩)] ⟨173, 17, 173, 47⟩) ⟨173, 4, 173, 47⟩,
    .assign 6 ⟨174, 4, 174, 15⟩ (.meth 114 24 (.var 0 ⟨174, 18, 174, 27⟩) "covers" ⟨174, 18, 174, 34⟩ [(.var 4 ⟨174, 35, 174, 46⟩)] ⟨174, 18, 174, 47⟩) ⟨174, 4, 174, 47⟩,
    .ite (.bop .Or [(.not (.isi (.var 5 ⟨175, 22, 175, 32⟩) .list 13 ⟨175, 11, 175, 21⟩ 17 ⟨175, 34, 175, 38⟩ ⟨175, 11, 175, 39⟩) ⟨175, 7, 175, 39⟩), (.not (.isi (.var 6 ⟨175, 58, 175, 69⟩) .bool 13 ⟨175, 47, 175, 57⟩ 15 ⟨175, 71, 175, 75⟩ ⟨175, 47, 175, 76⟩) ⟨175, 43, 175, 76⟩), (.cmp .NotEq (.var 4 ⟨175, 80, 175, 91⟩) (.var 3 ⟨175, 95, 175, 104⟩) ⟨175, 80, 175, 104⟩)] ⟨175, 7, 175, 104⟩) [.ret (.cbool false ⟨176, 15, 176, 20⟩) ⟨176, 8, 176, 20⟩] [] ⟨175, 4, 176, 20⟩,
    .ite (.cmp .NotEq (.var 6 ⟨177, 7, 177, 18⟩) (.cmp .Eq (.bi .len false 2 ⟨177, 23, 177, 26⟩ [(.comp false (.cint 1 ⟨177, 28, 177, 29⟩) 8 ⟨177, 34, 177, 42⟩ (.of (.var 3 ⟨177, 46, 177, 55⟩)) [(.cmp .NotIn (.sub (.var 8 ⟨177, 59, 177, 67⟩) (.cint 0 ⟨177, 68, 177, 69⟩) ⟨177, 59, 177, 70⟩) (.var 2 ⟨177, 78, 177, 90⟩) ⟨177, 59, 177, 90⟩)] { kind := .function, names := [(PySem.Str.ofString ".0", .local), (PySem.Str.ofString "_law_one", .local), (PySem.Str.ofString "_law_columns", .free)], isGenerator := false, isCoroutine := false, more := [] } [2] ⟨177, 27, 177, 91⟩)] ⟨177, 23, 177, 92⟩) (.cint 0 ⟨177, 96, 177, 97⟩) ⟨177, 23, 177, 97⟩) ⟨177, 7, 177, 98⟩) [.ret (.cbool false ⟨178, 15, 178, 20⟩) ⟨178, 8, 178, 20⟩] [] ⟨177, 4, 178, 20⟩,
    .assign 7 ⟨179, 4, 179, 12⟩ (.comp false (.var 9 ⟨179, 16, 179, 27⟩) 9 ⟨179, 32, 179, 43⟩ (.range 0 ⟨179, 47, 179, 52⟩ (.bi .len false 2 ⟨179, 53, 179, 56⟩ [(.var 1 ⟨179, 57, 179, 66⟩)] ⟨179, 53, 179, 67⟩) ⟨179, 47, 179, 68⟩) [(.call 25 ⟨179, 72, 179, 87⟩ [(.sub (.var 1 ⟨179, 88, 179, 97⟩) (.var 9 ⟨179, 98, 179, 109⟩) ⟨179, 88, 179, 110⟩), (.var 2 ⟨179, 112, 179, 124⟩), (.var 3 ⟨179, 126, 179, 135⟩)] ⟨179, 72, 179, 136⟩)] { kind := .function, names := [(PySem.Str.ofString ".0", .local), (PySem.Str.ofString "_law_number", .local), (PySem.Str.ofString "_law_in_stretch", .globalImplicit), (PySem.Str.ofString "_law_columns", .free), (PySem.Str.ofString "_law_rows", .free), (PySem.Str.ofString "_law_wish", .free)], isGenerator := false, isCoroutine := false, more := [] } [2, 1, 3] ⟨179, 15, 179, 137⟩) ⟨179, 4, 179, 137⟩,
    .ite (.bop .Or [(.not (.call 26 ⟨180, 11, 180, 24⟩ [(.var 5 ⟨180, 25, 180, 35⟩), (.var 1 ⟨180, 37, 180, 46⟩), (.var 2 ⟨180, 48, 180, 60⟩)] ⟨180, 11, 180, 61⟩) ⟨180, 7, 180, 61⟩), (.cmp .NotEq (.bi .sorted false 4 ⟨180, 65, 180, 71⟩ [(.var 5 ⟨180, 72, 180, 82⟩)] ⟨180, 65, 180, 83⟩) (.var 7 ⟨180, 87, 180, 95⟩) ⟨180, 65, 180, 95⟩)] ⟨180, 7, 180, 95⟩) [.ret (.cbool false ⟨181, 15, 181, 20⟩) ⟨181, 8, 181, 20⟩] [] ⟨180, 4, 181, 20⟩,
    .expr (.app (.var 5 ⟨182, 4, 182, 14⟩) ⟨182, 4, 182, 21⟩ (.neg (.cint 1 ⟨182, 23, 182, 24⟩) ⟨182, 22, 182, 24⟩) ⟨182, 4, 182, 25⟩) ⟨182, 4, 182, 25⟩,
    .ret (.bop .And [(.cmp .Eq (.bi .sorted false 4 ⟨183, 11, 183, 17⟩ [(.meth 114 23 (.var 0 ⟨183, 18, 183, 27⟩) "stretch" ⟨183, 18, 183, 35⟩ [(.var 4 ⟨183, 36, 183, 47⟩)] ⟨183, 18, 183, 48⟩)] ⟨183, 11, 183, 49⟩) (.var 7 ⟨183, 53, 183, 61⟩) ⟨183, 11, 183, 61⟩), (.cmp .Eq (.bi .len false 2 ⟨183, 66, 183, 69⟩ [(.var 5 ⟨183, 70, 183, 80⟩)] ⟨183, 66, 183, 81⟩) (.bin .Add (.bi .len false 2 ⟨183, 85, 183, 88⟩ [(.var 7 ⟨183, 89, 183, 97⟩)] ⟨183, 85, 183, 98⟩) (.cint 1 ⟨183, 101, 183, 102⟩) ⟨183, 85, 183, 102⟩) ⟨183, 66, 183, 102⟩)] ⟨183, 11, 183, 102⟩) ⟨183, 4, 183, 102⟩]

noncomputable def nm_law : Nat → Str
  | 0 => PySem.Str.ofString "_law_script"
  | 1 => PySem.Str.ofString "_law_width"
  | 2 => PySem.Str.ofString "_law_columns"
  | 3 => PySem.Str.ofString "_law_size"
  | 4 => PySem.Str.ofString "_law_rows"
  | 5 => PySem.Str.ofString "_law_many"
  | 6 => PySem.Str.ofString "_law_wish"
  | 7 => PySem.Str.ofString "_law_kept"
  | 8 => PySem.Str.ofString "_law_number"
  | 9 => PySem.Str.ofString "_law_k"
  | 10 => PySem.Str.ofString "_law_k"
  | _ => ""

noncomputable def p_law : List PS := [.assign 1 ⟨185, 4, 185, 14⟩ (.bin .Add (.cint 1 ⟨185, 17, 185, 18⟩) (.bin .Mod (.call 27 ⟨185, 21, 185, 28⟩ [(.var 0 ⟨185, 29, 185, 40⟩), (.cint 0 ⟨185, 42, 185, 43⟩)] ⟨185, 21, 185, 44⟩) (.cint 6 ⟨185, 47, 185, 48⟩) ⟨185, 21, 185, 48⟩) ⟨185, 17, 185, 48⟩) ⟨185, 4, 185, 48⟩,
    .assign 2 ⟨186, 4, 186, 16⟩ (.call 28 ⟨186, 19, 186, 29⟩ [(.call 27 ⟨186, 30, 186, 37⟩ [(.var 0 ⟨186, 38, 186, 49⟩), (.cint 1 ⟨186, 51, 186, 52⟩)] ⟨186, 30, 186, 53⟩), (.var 1 ⟨186, 55, 186, 65⟩)] ⟨186, 19, 186, 66⟩) ⟨186, 4, 186, 66⟩,
    .assign 3 ⟨187, 4, 187, 13⟩ (.bin .Mod (.bin .FloorDiv (.call 27 ⟨187, 16, 187, 23⟩ [(.var 0 ⟨187, 24, 187, 35⟩), (.cint 0 ⟨187, 37, 187, 38⟩)] ⟨187, 16, 187, 39⟩) (.cint 6 ⟨187, 43, 187, 44⟩) ⟨187, 16, 187, 44⟩) (.cint 8 ⟨187, 47, 187, 48⟩) ⟨187, 16, 187, 48⟩) ⟨187, 4, 187, 48⟩,
    .ite (.cmp .Eq (.bin .Mod (.bin .FloorDiv (.call 27 ⟨188, 7, 188, 14⟩ [(.var 0 ⟨188, 15, 188, 26⟩), (.cint 0 ⟨188, 28, 188, 29⟩)] ⟨188, 7, 188, 30⟩) (.cint 48 ⟨188, 34, 188, 36⟩) ⟨188, 7, 188, 36⟩) (.cint 4 ⟨188, 39, 188, 40⟩) ⟨188, 7, 188, 40⟩) (.cint 1 ⟨188, 44, 188, 45⟩) ⟨188, 7, 188, 45⟩) [.assign 3 ⟨189, 8, 189, 17⟩ (.bin .Mod (.bin .FloorDiv (.call 27 ⟨189, 20, 189, 27⟩ [(.var 0 ⟨189, 28, 189, 39⟩), (.cint 0 ⟨189, 41, 189, 42⟩)] ⟨189, 20, 189, 43⟩) (.cint 192 ⟨189, 47, 189, 50⟩) ⟨189, 20, 189, 50⟩) (.cint 40 ⟨189, 53, 189, 55⟩) ⟨189, 20, 189, 55⟩) ⟨189, 8, 189, 55⟩] [] ⟨188, 4, 189, 55⟩,
    .ite (.cmp .Eq (.bin .Mod (.bin .FloorDiv (.call 27 ⟨190, 7, 190, 14⟩ [(.var 0 ⟨190, 15, 190, 26⟩), (.cint 0 ⟨190, 28, 190, 29⟩)] ⟨190, 7, 190, 30⟩) (.cint 48 ⟨190, 34, 190, 36⟩) ⟨190, 7, 190, 36⟩) (.cint 16 ⟨190, 39, 190, 41⟩) ⟨190, 7, 190, 41⟩) (.cint 2 ⟨190, 45, 190, 46⟩) ⟨190, 7, 190, 46⟩) [.assign 3 ⟨191, 8, 191, 17⟩ (.bin .Add (.cint 120 ⟨191, 20, 191, 23⟩) (.bin .Mod (.bin .FloorDiv (.call 27 ⟨191, 26, 191, 33⟩ [(.var 0 ⟨191, 34, 191, 45⟩), (.cint 0 ⟨191, 47, 191, 48⟩)] ⟨191, 26, 191, 49⟩) (.cint 768 ⟨191, 53, 191, 56⟩) ⟨191, 26, 191, 56⟩) (.cint 80 ⟨191, 59, 191, 61⟩) ⟨191, 26, 191, 61⟩) ⟨191, 20, 191, 61⟩) ⟨191, 8, 191, 61⟩] [] ⟨190, 4, 191, 61⟩,
    .assign 4 ⟨192, 4, 192, 13⟩ (.comp false (.call 29 ⟨192, 17, 192, 25⟩ [(.bin .Add (.call 27 ⟨192, 26, 192, 33⟩ [(.var 0 ⟨192, 34, 192, 45⟩), (.bin .Add (.cint 7 ⟨192, 47, 192, 48⟩) (.bin .Mod (.var 9 ⟨192, 51, 192, 57⟩) (.cint 9 ⟨192, 60, 192, 61⟩) ⟨192, 51, 192, 61⟩) ⟨192, 47, 192, 61⟩)] ⟨192, 26, 192, 62⟩) (.bin .Mult (.cint 11 ⟨192, 65, 192, 67⟩) (.bin .FloorDiv (.var 9 ⟨192, 71, 192, 77⟩) (.cint 9 ⟨192, 81, 192, 82⟩) ⟨192, 71, 192, 82⟩) ⟨192, 65, 192, 83⟩) ⟨192, 26, 192, 83⟩), (.var 1 ⟨192, 85, 192, 95⟩)] ⟨192, 17, 192, 96⟩) 9 ⟨192, 101, 192, 107⟩ (.range 0 ⟨192, 111, 192, 116⟩ (.var 3 ⟨192, 117, 192, 126⟩) ⟨192, 111, 192, 127⟩) [] { kind := .function, names := [(PySem.Str.ofString ".0", .local), (PySem.Str.ofString "_law_k", .local), (PySem.Str.ofString "_law_row", .globalImplicit), (PySem.Str.ofString "_law_at", .globalImplicit), (PySem.Str.ofString "_law_script", .free), (PySem.Str.ofString "_law_width", .free)], isGenerator := false, isCoroutine := false, more := [] } [0, 1] ⟨192, 16, 192, 128⟩) ⟨192, 4, 192, 128⟩,
    .assign 5 ⟨193, 4, 193, 13⟩ (.bin .Mod (.call 27 ⟨193, 16, 193, 23⟩ [(.var 0 ⟨193, 24, 193, 35⟩), (.cint 2 ⟨193, 37, 193, 38⟩)] ⟨193, 16, 193, 39⟩) (.cint 5 ⟨193, 42, 193, 43⟩) ⟨193, 16, 193, 43⟩) ⟨193, 4, 193, 43⟩,
    .ite (.cmp .Eq (.bin .Mod (.bin .FloorDiv (.call 27 ⟨194, 7, 194, 14⟩ [(.var 0 ⟨194, 15, 194, 26⟩), (.cint 2 ⟨194, 28, 194, 29⟩)] ⟨194, 7, 194, 30⟩) (.cint 5 ⟨194, 34, 194, 35⟩) ⟨194, 7, 194, 35⟩) (.cint 8 ⟨194, 38, 194, 39⟩) ⟨194, 7, 194, 39⟩) (.cint 1 ⟨194, 43, 194, 44⟩) ⟨194, 7, 194, 44⟩) [.assign 5 ⟨195, 8, 195, 17⟩ (.cint 20 ⟨195, 20, 195, 22⟩) ⟨195, 8, 195, 22⟩] [] ⟨194, 4, 195, 22⟩,
    .assign 6 ⟨196, 4, 196, 13⟩ (.comp false (.call 30 ⟨196, 17, 196, 28⟩ [(.bin .Add (.call 27 ⟨196, 29, 196, 36⟩ [(.var 0 ⟨196, 37, 196, 48⟩), (.bin .Add (.cint 3 ⟨196, 50, 196, 51⟩) (.bin .Mod (.var 10 ⟨196, 54, 196, 60⟩) (.cint 4 ⟨196, 63, 196, 64⟩) ⟨196, 54, 196, 64⟩) ⟨196, 50, 196, 64⟩)] ⟨196, 29, 196, 65⟩) (.bin .Mult (.cint 9 ⟨196, 68, 196, 69⟩) (.bin .FloorDiv (.var 10 ⟨196, 73, 196, 79⟩) (.cint 4 ⟨196, 83, 196, 84⟩) ⟨196, 73, 196, 84⟩) ⟨196, 68, 196, 85⟩) ⟨196, 29, 196, 85⟩), (.var 1 ⟨196, 87, 196, 97⟩), (.var 4 ⟨196, 99, 196, 108⟩)] ⟨196, 17, 196, 109⟩) 10 ⟨196, 114, 196, 120⟩ (.range 0 ⟨196, 124, 196, 129⟩ (.var 5 ⟨196, 130, 196, 139⟩) ⟨196, 124, 196, 140⟩) [] { kind := .function, names := [(PySem.Str.ofString ".0", .local), (PySem.Str.ofString "_law_k", .local), (PySem.Str.ofString "_law_triple", .globalImplicit), (PySem.Str.ofString "_law_at", .globalImplicit), (PySem.Str.ofString "_law_rows", .free), (PySem.Str.ofString "_law_script", .free), (PySem.Str.ofString "_law_width", .free)], isGenerator := false, isCoroutine := false, more := [] } [4, 0, 1] ⟨196, 16, 196, 141⟩) ⟨196, 4, 196, 141⟩,
    .assign 7 ⟨197, 4, 197, 13⟩ (.new 114 31 32 ⟨197, 16, 197, 20⟩ [(.var 2 ⟨197, 21, 197, 33⟩)] ⟨197, 16, 197, 34⟩) ⟨197, 4, 197, 34⟩,
    .loop 8 ⟨198, 8, 198, 19⟩ (.range 0 ⟨198, 23, 198, 28⟩ (.var 3 ⟨198, 29, 198, 38⟩) ⟨198, 23, 198, 39⟩) [.ite (.bop .And [(.cmp .Eq (.var 8 ⟨199, 11, 199, 22⟩) (.bin .FloorDiv (.var 3 ⟨199, 26, 199, 35⟩) (.cint 2 ⟨199, 39, 199, 40⟩) ⟨199, 26, 199, 40⟩) ⟨199, 11, 199, 40⟩), (.not (.call 33 ⟨199, 50, 199, 59⟩ [(.var 7 ⟨199, 60, 199, 69⟩), (.slc false (.var 4 ⟨199, 71, 199, 80⟩) Option.none (some (.var 8 ⟨199, 82, 199, 93⟩)) ⟨199, 81, 199, 93⟩ ⟨199, 71, 199, 94⟩), (.var 2 ⟨199, 96, 199, 108⟩), (.var 6 ⟨199, 110, 199, 119⟩)] ⟨199, 50, 199, 120⟩) ⟨199, 46, 199, 120⟩)] ⟨199, 11, 199, 121⟩) [.ret (.cbool false ⟨200, 19, 200, 24⟩) ⟨200, 12, 200, 24⟩] [] ⟨199, 8, 200, 24⟩,
    .expr (.meth 114 34 (.var 7 ⟨201, 8, 201, 17⟩) "put" ⟨201, 8, 201, 21⟩ [(.var 8 ⟨201, 22, 201, 33⟩), (.sub (.var 4 ⟨201, 35, 201, 44⟩) (.var 8 ⟨201, 45, 201, 56⟩) ⟨201, 35, 201, 57⟩)] ⟨201, 8, 201, 58⟩) ⟨201, 8, 201, 58⟩] ⟨198, 4, 201, 58⟩,
    .ret (.call 33 ⟨202, 11, 202, 20⟩ [(.var 7 ⟨202, 21, 202, 30⟩), (.var 4 ⟨202, 32, 202, 41⟩), (.var 2 ⟨202, 43, 202, 55⟩), (.var 6 ⟨202, 57, 202, 66⟩)] ⟨202, 11, 202, 67⟩) ⟨202, 4, 202, 67⟩]

noncomputable def gn : Nat → Str
  | 0 => PySem.Str.ofString "range"
  | 1 => PySem.Str.ofString "min"
  | 2 => PySem.Str.ofString "len"
  | 3 => PySem.Str.ofString "less"
  | 4 => PySem.Str.ofString "sorted"
  | 5 => PySem.Str.ofString "set"
  | 6 => PySem.Str.ofString "max"
  | 7 => PySem.Str.ofString "Kept.entry_of"
  | 8 => PySem.Str.ofString "below"
  | 9 => PySem.Str.ofString "merged"
  | 10 => PySem.Str.ofString "triple_of"
  | 11 => PySem.Str.ofString "Kept.bounds"
  | 12 => PySem.Str.ofString "Kept.behind"
  | 13 => PySem.Str.ofString "isinstance"
  | 14 => PySem.Str.ofString "int"
  | 15 => PySem.Str.ofString "bool"
  | 16 => PySem.Str.ofString "_law_value"
  | 17 => PySem.Str.ofString "list"
  | 18 => PySem.Str.ofString "tuple"
  | 19 => PySem.Str.ofString "_law_ends"
  | 20 => PySem.Str.ofString "_law_between"
  | 21 => PySem.Str.ofString "_law_whole"
  | 22 => PySem.Str.ofString "_law_ahead"
  | 23 => PySem.Str.ofString "Kept.stretch"
  | 24 => PySem.Str.ofString "Kept.covers"
  | 25 => PySem.Str.ofString "_law_in_stretch"
  | 26 => PySem.Str.ofString "_law_in_order"
  | 27 => PySem.Str.ofString "_law_at"
  | 28 => PySem.Str.ofString "_law_order"
  | 29 => PySem.Str.ofString "_law_row"
  | 30 => PySem.Str.ofString "_law_triple"
  | 31 => PySem.Str.ofString "Kept.__init__"
  | 32 => PySem.Str.ofString "Kept"
  | 33 => PySem.Str.ofString "_law_good"
  | 34 => PySem.Str.ofString "Kept.put"
  | _ => ""

end Mine.L06

open PySem PyProof.Rows
set_option Elab.async false
set_option maxRecDepth 20000
namespace Mine.L06

noncomputable def lessF : List Int → List Int → Bool
  | [], [] => false
  | [], _ :: _ => true
  | _ :: _, [] => false
  | a :: r, b :: t => if a = b then lessF r t else decide (a < b)

theorem lessF_take : ∀ (k : Nat) (xs ys : List Int), xs.take k = ys.take k → k ≤ xs.length → k ≤ ys.length → lessF xs ys = lessF (xs.drop k) (ys.drop k)
  | 0, xs, ys, _, _, _ => by simp
  | k + 1, a :: xs, b :: ys, h, h1, h2 => by
    simp only [List.take_succ_cons, List.cons.injEq] at h
    simp only [List.length_cons] at h1 h2
    simp only [lessF, List.drop_succ_cons, h.1, if_true]
    exact lessF_take k xs ys h.2 (by omega) (by omega)
  | k + 1, [], _, _, h1, _ => by simp at h1
  | k + 1, _ :: _, [], _, _, h2 => by simp at h2

noncomputable def S_less : Spec := fun ds σ Φ => ∃ u v xs ys, ds = [u, v] ∧ asL σ u = some (List.map D.int xs) ∧ asL σ v = some (List.map D.int ys) ∧ xs.length ≤ 1000 ∧ ys.length ≤ 1000 ∧ Φ (.bool (lessF xs ys)) σ

theorem minlen (xs ys : List Int) : (if ((List.map D.int ys).length : Int) < (List.map D.int xs).length then ((List.map D.int ys).length : Int) else (List.map D.int xs).length) = ((min xs.length ys.length : Nat) : Int) := by
  simp only [List.length_map]; split <;> omega

theorem less_vc (S : Nat → Spec) (ds : List D) (σ : Store) (Φ : D → Store → Prop) (h : S_less ds σ Φ) : ds.length = [0, 1].length ∧ vcSs S p_less (initE [0, 1] ds 3) σ (retS Φ) := by
  obtain ⟨u, v, xs, ys, rfl, hu, hv, h1, h2, h⟩ := h
  refine ⟨rfl, ?_⟩
  conv => whnf
  refine ⟨_, hu, small_ok (by simp; omega), ?_⟩
  conv => whnf
  refine ⟨_, hv, small_ok (by simp; omega), ?_⟩
  conv => whnf
  rw [minlen]
  refine ⟨by unfold small; omega, by unfold small; omega, ?_⟩
  conv => whnf
  refine forS_inv (fun k ρ σ' => σ' = σ ∧ (∃ o, ρ = [some u, some v, o]) ∧ xs.take k = ys.take k ∧ k ≤ xs.length ∧ k ≤ ys.length) (fun _ _ _ _ => trivial) ?_ ?_ ⟨rfl, ⟨none, rfl⟩, rfl, Nat.zero_le _, Nat.zero_le _⟩
  · rintro k d ρ σ' K hd ⟨rfl, ⟨o, rfl⟩, ht, hx, hy⟩ hK
    obtain ⟨rfl, hlt⟩ := rangeD_get hd
    have hx' : k < xs.length := by omega
    have hy' : k < ys.length := by omega
    conv => whnf
    refine ⟨_, hu, small_ok (by simp; omega), .inl ⟨by omega, _, get_map_int hx', ?_⟩⟩
    conv => whnf
    refine ⟨_, hv, small_ok (by simp; omega), .inl ⟨by omega, _, get_map_int hy', ?_⟩⟩
    conv => whnf
    refine and_not_decide (fun hne => ?_) (fun he => ?_)
    · conv => whnf
      refine ⟨_, hu, small_ok (by simp; omega), .inl ⟨by omega, _, get_map_int hx', ?_⟩⟩
      conv => whnf
      refine ⟨_, hv, small_ok (by simp; omega), .inl ⟨by omega, _, get_map_int hy', ?_⟩⟩
      refine retS_ret ?_
      rw [lessF_take k xs ys ht hx hy, List.drop_eq_getElem_cons hx', List.drop_eq_getElem_cons hy'] at h
      simp only [lessF, if_neg hne] at h
      exact h
    · refine hK _ _ ⟨rfl, ⟨_, rfl⟩, ?_, hx', hy'⟩
      rw [List.take_succ_eq_append_getElem hx', List.take_succ_eq_append_getElem hy', ht, he]
  · rintro ρ σ' ⟨rfl, ⟨o, rfl⟩, ht, hx, hy⟩
    rw [rangeD_length] at ht hx hy
    conv => whnf
    refine ⟨_, hu, small_ok (by simp; omega), ?_⟩
    conv => whnf
    refine ⟨_, hv, small_ok (by simp; omega), ?_⟩
    refine retS_ret ?_
    rw [lessF_take _ xs ys ht hx hy] at h
    simp only [List.length_map]
    rcases Nat.lt_or_ge xs.length ys.length with hl | hl
    · have e1 : xs.drop (((min xs.length ys.length : Nat) : Int)).toNat = [] := List.drop_eq_nil_of_le (by omega)
      have e2 : ys.drop (((min xs.length ys.length : Nat) : Int)).toNat ≠ [] := by intro q; have := List.drop_eq_nil_iff.mp q; omega
      rw [e1] at h
      cases e : ys.drop (((min xs.length ys.length : Nat) : Int)).toNat with
      | nil => exact absurd e e2
      | cons b t => rw [e] at h; simp only [lessF] at h; rw [decide_eq_true (by omega)]; exact h
    · have e1 : ys.drop (((min xs.length ys.length : Nat) : Int)).toNat = [] := List.drop_eq_nil_of_le (by omega)
      rw [e1] at h
      rw [decide_eq_false (by omega)]
      cases e : xs.drop (((min xs.length ys.length : Nat) : Int)).toNat with
      | nil => rw [e] at h; exact h
      | cons b t => rw [e] at h; exact h

theorem ahead_vc (S : Nat → Spec) (ds : List D) (σ : Store) (Φ : D → Store → Prop) (h : S_less ds σ Φ) : ds.length = [0, 1].length ∧ vcSs S p_law_ahead (initE [0, 1] ds 3) σ (retS Φ) := less_vc S ds σ Φ h

/-- below: where the rows that stand ahead come first -/
noncomputable def S_below : Spec := fun ds σ Φ => ∃ (u v : D) (rows : List (List Int)) (key : List Int) (m : Nat), ds = [u, v] ∧ asL σ u = some (rows.map dI) ∧ asL σ v = some (key.map D.int) ∧ rows.length ≤ 1000 ∧ key.length ≤ 1000 ∧ (∀ r ∈ rows, r.length ≤ 1000) ∧ m ≤ rows.length ∧
  (∀ (i : Nat) (hi : i < rows.length), lessF rows[i] key = decide (i < m)) ∧ Φ (.int m) σ
theorem below_vc (S : Nat → Spec) (hS : S 3 = S_less) (ds : List D) (σ : Store) (Φ : D → Store → Prop) (h : S_below ds σ Φ) : ds.length = [0, 1].length ∧ vcSs S p_below (initE [0, 1] ds 5) σ (retS Φ) := by
  obtain ⟨u, v, rows, key, m, rfl, hu, hv, h1, h2, h3, hm, hl, h⟩ := h
  refine ⟨rfl, ?_⟩
  conv => whnf
  refine ⟨_, hu, small_ok (by simp; omega), ?_⟩
  conv => whnf
  refine ⟨fun n ρ σ' => σ' = σ ∧ ∃ (lo hi : Nat) (o : Option D), ρ = [some u, some v, some (.int lo), some (.int hi), o] ∧ lo ≤ m ∧ m ≤ hi ∧ hi ≤ rows.length ∧ n = hi - lo, rows.length, ⟨rfl, 0, rows.length, none, by simp [initE, initGo, PEnv.put]; rfl, Nat.zero_le _, hm, Nat.le_refl _, rfl⟩, ?_⟩
  rintro n ρ σ' ⟨rfl, lo, hi, o, rfl, hlo, hhi, hhr, rfl⟩
  conv => whnf
  refine and_decide (fun hlt => ?_) (fun hge => ?_)
  · conv => whnf
    refine ⟨by decide, ?_⟩
    conv => whnf
    have hmid : (((lo : Int) + hi) / 2).toNat < rows.length := by omega
    refine ⟨_, hu, small_ok (by simp; omega), .inl ⟨by omega, _, get_map dI hmid, ?_⟩⟩
    conv => whnf
    rw [hS]
    refine ⟨_, _, rows[(((lo : Int) + hi) / 2).toNat], key, rfl, rfl, hv, h3 _ (List.getElem_mem _), h2, ?_⟩
    rw [hl _ hmid]
    conv => whnf
    refine and_decide (fun hc => ?_) (fun hc => ?_)
    · refine ⟨hi - ((((lo : Int) + hi) / 2).toNat + 1), by omega, rfl, (((lo : Int) + hi) / 2).toNat + 1, hi, some (D.int (((lo : Int) + hi) / 2)), ?_, by omega, hhi, hhr, rfl⟩
      have : ((lo : Int) + hi) / 2 + 1 = ((((((lo : Int) + hi) / 2).toNat + 1 : Nat)) : Int) := by omega
      rw [← this]; rfl
    · refine ⟨(((lo : Int) + hi) / 2).toNat - lo, by omega, rfl, lo, (((lo : Int) + hi) / 2).toNat, some (D.int (((lo : Int) + hi) / 2)), ?_, hlo, by omega, by omega, rfl⟩
      have : ((lo : Int) + hi) / 2 = (((((lo : Int) + hi) / 2).toNat : Nat) : Int) := by omega
      rw [← this]; rfl
  · have : lo = m := by omega
    subst this
    exact retS_ret h
end Mine.L06

open PySem PyProof.Rows
set_option Elab.async false
set_option maxRecDepth 20000
namespace Mine.L06

noncomputable abbrev CK : Nat := 114
noncomputable abbrev dN (cols : List Nat) : D := .tuple (cols.map fun (k : Nat) => D.int k)
noncomputable abbrev fsK (cD : D) (e : Addr) : List (Str × D) := [("columns", cD), ("entries", .obj e)]
/-- an order with its columns and entries -/
structure KeptAt (σ : Store) (a : Addr) (cols : List Nat) (E : List (List Int)) (dx e : Addr) : Prop where
  obj : σ a = some (.inst CK dx (fsK (dN cols) e))
  ents : σ e = some (.mlist (E.map dI))

theorem col_f (cD : D) (e : Addr) : getF "columns" (fsK cD e) = some cD := by simp [getF]
theorem ent_f (cD : D) (e : Addr) : getF "entries" (fsK cD e) = some (.obj e) := by
  have : ¬ (("columns" : Str) = "entries") := by decide
  simp [getF, this]
theorem no_f (cD : D) (e : Addr) {n : Str} (h1 : (("columns" : Str) = n) = False) (h2 : (("entries" : Str) = n) = False) : getF n (fsK cD e) = none := by simp [getF, h1, h2]
theorem asL_ent {σ : Store} {e : Addr} {xs : List D} (h : σ e = some (.mlist xs)) : asL σ (.obj e) = some xs := by simp [asL, h]

theorem set_ne {σ : Store} {a x : Addr} {m : MObj} (h : x ≠ a) : (σ.set a m) x = σ x := by unfold Store.set; rw [if_neg h]

noncomputable def S_init : Spec := fun ds σ Φ => ∃ a dx cD, ds = [.obj a, cD] ∧ σ a = some (.inst CK dx []) ∧
  ∀ e σ', σ e = none → σ' a = some (.inst CK dx (fsK cD e)) → σ' e = some (.mlist []) → (∀ x, x ≠ a → x ≠ e → σ' x = σ x) → Φ .none σ'
theorem init_vc (S : Nat → Spec) (ds : List D) (σ : Store) (Φ : D → Store → Prop) (h : S_init ds σ Φ) : ds.length = [0, 1].length ∧ vcSs S p_Kept___init__ (initE [0, 1] ds 2) σ (retS Φ) := by
  obtain ⟨a, dx, cD, rfl, ha, h⟩ := h
  refine ⟨rfl, ?_⟩
  conv => whnf
  refine ⟨a, dx, [], rfl, ha, by decide, ?_⟩
  conv => whnf
  refine ⟨rfl, ?_⟩
  intro e hf
  have hne : e ≠ a := fun q => by have := hf.1; rw [q, set_at] at this; cases this
  conv => whnf
  refine ⟨a, dx, [("columns", cD)], rfl, by rw [set_ne hne.symm, set_at]; rfl, by simp, ?_⟩
  refine ⟨_, Sub.refl _, h e _ ?_ ?_ ?_ ?_⟩
  · have := hf.1; rwa [set_ne hne] at this
  · rw [set_at]
    have q : ¬ (("columns" : Str) = "entries") := by decide
    simp only [putF, if_neg q]
  · rw [set_ne hne, set_at]
  · intro x h1 h2
    rw [set_ne h1, set_ne h2, set_ne h1]

noncomputable def entF (cols : List Nat) (row : List Int) (n : Int) : List Int := cols.map (fun c => row.getD c 0) ++ [n]

noncomputable def S_entry : Spec := fun ds σ Φ => ∃ a cols E dx e rD row n, ds = [.obj a, .int n, rD] ∧ KeptAt σ a cols E dx e ∧ asL σ rD = some (List.map D.int row) ∧ row.length ≤ 1000 ∧ cols.length ≤ 1000 ∧ (∀ c ∈ cols, c < row.length) ∧ Φ (dI (entF cols row n)) σ
theorem entry_vc (S : Nat → Spec) (ds : List D) (σ : Store) (Φ : D → Store → Prop) (h : S_entry ds σ Φ) : ds.length = [0, 1, 2].length ∧ vcSs S p_Kept_entry_of (initE [0, 1, 2] ds 4) σ (retS Φ) := by
  obtain ⟨a, cols, E, dx, e, rD, row, n, rfl, hk, hr, hl, hcl, hc, h⟩ := h
  refine ⟨rfl, ?_⟩
  conv => whnf
  refine ⟨a, dx, _, _, rfl, hk.obj, col_f _ _, ?_⟩
  refine ⟨_, rfl, small_ok (by simp; omega), ?_⟩
  refine compS_mapG (fun (k : Nat) => D.int k) (fun c => some (.int (row.getD c 0))) trivial _ _ ?_ ?_
  · intro c hcm K hK
    conv => whnf
    refine and_tt ?_
    conv => whnf
    have hlt := hc c hcm
    refine ⟨_, hr, small_ok (by simp; omega), .inl ⟨by omega, _, get_map_int (k := (c : Int).toNat) (by simpa using hlt), ?_⟩⟩
    have : row[(c : Int).toNat]'(by simpa using hlt) = row.getD c 0 := by
      rw [List.getD_eq_getElem?_getD, List.getElem?_eq_getElem hlt]; simp
    rw [this]; exact hK
  rw [List.nil_append]
  conv => whnf
  refine ⟨rfl, ?_⟩
  conv => whnf
  have e1 : cols.filterMap (fun c => some (D.int (row.getD c 0))) = (cols.map fun c => row.getD c 0).map D.int := by
    rw [List.map_map, List.filterMap_eq_map']; rfl
  rw [e1]
  refine ⟨small_ok (by simp; omega), retS_ret ?_⟩
  have e2 : (cols.map fun c => row.getD c 0).map D.int ++ [D.int n] = (entF cols row n).map D.int := by unfold entF; simp
  rw [e2]; exact h
theorem lessF_trans : ∀ a b c : List Int, lessF a b = true → lessF b c = true → lessF a c = true
  | [], [], _, h, _ => by simp [lessF] at h
  | [], _ :: _, [], _, h => by simp [lessF] at h
  | [], _ :: _, _ :: _, _, _ => rfl
  | _ :: _, [], _, h, _ => by simp [lessF] at h
  | _ :: _, _ :: _, [], _, h => by simp [lessF] at h
  | x :: a, y :: b, z :: c, h, h' => by
    simp only [lessF] at h h' ⊢
    split at h
    · rename_i e
      subst e
      split at h'
      · rename_i e'; subst e'; rw [if_pos rfl]; exact lessF_trans a b c h h'
      · rename_i e'; rw [if_neg e']; exact h'
    · rename_i e
      have h1 := of_decide_eq_true h
      split at h'
      · rename_i e'; subst e'; rw [if_neg e]; exact h
      · rename_i e'
        have h2 := of_decide_eq_true h'
        rw [if_neg (by omega)]; exact decide_eq_true (by omega)


noncomputable def SortE (E : List (List Int)) : Prop := E.Pairwise fun a b => lessF a b = true
noncomputable def cntF (E : List (List Int)) (key : List Int) : Nat := (E.filter fun e => lessF e key).length
theorem SortE.prefix {E : List (List Int)} (h : SortE E) (key : List Int) (i : Nat) (hi : i < E.length) : lessF E[i] key = decide (i < cntF E key) :=
  filter_prefix (fun e => lessF e key) E (h.imp fun hab hb => lessF_trans _ _ _ hab hb) i hi
theorem cnt_le (E : List (List Int)) (key : List Int) : cntF E key ≤ E.length := List.length_filter_le _ _

noncomputable def putE (E : List (List Int)) (x : List Int) : List (List Int) := E.take (cntF E x) ++ x :: E.drop (cntF E x)
/-- bounds on sizes -/
structure SzE (cols : List Nat) (E : List (List Int)) : Prop where
  n : E.length ≤ 900
  c : cols.length ≤ 100
  r : ∀ r ∈ E, r.length = cols.length + 1
  s : SortE E

noncomputable def S_put : Spec := fun ds σ Φ => ∃ a cols E dx e rD row n, ds = [.obj a, .int n, rD] ∧ KeptAt σ a cols E dx e ∧ SzE cols E ∧ asL σ rD = some (List.map D.int row) ∧ row.length ≤ 1000 ∧ (∀ c ∈ cols, c < row.length) ∧
  ∀ σ', σ' e = some (.mlist ((putE E (entF cols row n)).map dI)) → (∀ x, x ≠ e → σ' x = σ x) → Φ .none σ'
theorem ent_len (cols : List Nat) (row : List Int) (n : Int) : (entF cols row n).length = cols.length + 1 := by simp [entF]
theorem put_vc (S : Nat → Spec) (h7 : S 7 = S_entry) (h8 : S 8 = S_below) (ds : List D) (σ : Store) (Φ : D → Store → Prop) (h : S_put ds σ Φ) : ds.length = [0, 1, 2].length ∧ vcSs S p_Kept_put (initE [0, 1, 2] ds 4) σ (retS Φ) := by
  obtain ⟨a, cols, E, dx, e, rD, row, n, rfl, hk, hz, hr, hl, hc, h⟩ := h
  refine ⟨rfl, ?_⟩
  conv => whnf
  refine ⟨⟨a, dx, _, rfl, hk.obj, no_f _ _ (by decide) (by decide)⟩, ?_⟩
  conv => whnf
  rw [h7]
  refine ⟨a, cols, E, dx, e, rD, row, n, rfl, hk, hr, hl, by have := hz.c; omega, hc, ?_⟩
  conv => whnf
  refine ⟨a, dx, _, _, rfl, hk.obj, ent_f _ _, ?_⟩
  refine ⟨⟨e, _, rfl, hk.ents⟩, ?_⟩
  conv => whnf
  refine ⟨a, dx, _, _, rfl, hk.obj, ent_f _ _, ?_⟩
  conv => whnf
  rw [h8]
  have hcn := cnt_le E (entF cols row n)
  have hn := hz.n
  refine ⟨_, _, E, entF cols row n, cntF E (entF cols row n), rfl, asL_ent hk.ents, rfl, by omega, by rw [ent_len]; have := hz.c; omega, fun r hr' => by rw [hz.r r hr']; have := hz.c; omega, hcn, fun i hi => hz.s.prefix _ i hi, ?_⟩
  conv => whnf
  refine ⟨e, _, rfl, hk.ents, by omega, by simp; omega, small_ok (by simp; omega), ?_⟩
  refine ⟨_, Sub.refl _, h _ ?_ ?_⟩
  · rw [set_at]
    unfold putE
    simp
  · intro x hx
    rw [set_ne hx]
end Mine.L06

open PySem PyProof.Rows
set_option Elab.async false
set_option maxRecDepth 20000
namespace Mine.L06

structure Tr where
  col : Nat
  lo : Option Int
  hi : Option Int
noncomputable abbrev dT (t : Tr) : D := .tuple [.int t.col, dOpt t.lo, dOpt t.hi]
noncomputable def lowsF (wish : List Tr) (c : Nat) : List Int := wish.filterMap fun t => if t.col = c then t.lo else none
noncomputable def highsF (wish : List Tr) (c : Nat) : List Int := wish.filterMap fun t => if t.col = c then t.hi else none
noncomputable def entT (wish : List Tr) (c : Nat) : Tr := ⟨c, maxOf (lowsF wish c), minOf (highsF wish c)⟩

noncomputable def S_merged : Spec := fun ds σ Φ => ∃ wish : List Tr, ds = [.list (wish.map dT)] ∧ wish.length ≤ 1000 ∧ (∀ t ∈ wish, t.col < 6) ∧ Φ (.list (((keysOf (bitsOf (wish.map (·.col)))).map (entT wish)).map dT)) σ

theorem nat_dec (a b : Nat) : decide ((a : Int) = b) = decide (a = b) := by
  by_cases h : a = b
  · rw [decide_eq_true h, decide_eq_true (by omega)]
  · rw [decide_eq_false h, decide_eq_false (by omega)]

theorem merged_vc (S : Nat → Spec) (ds : List D) (σ : Store) (Φ : D → Store → Prop) (h : S_merged ds σ Φ) : ds.length = [0].length ∧ vcSs S p_merged (initE [0] ds 8) σ (retS Φ) := by
  obtain ⟨wish, rfl, hw, h6, h⟩ := h
  refine ⟨rfl, ?_⟩
  conv => whnf
  refine ⟨rfl, ?_⟩
  intro a hf
  conv => whnf
  refine ⟨_, rfl, small_ok (by simp; omega), ?_⟩
  refine compS_mapG dT (fun t => some (.int t.col)) trivial _ _ ?_ ?_
  · intro t ht K hK
    conv => whnf
    refine and_tt ?_
    conv => whnf
    exact ⟨_, rfl, small_ok (by simp), .inl ⟨by decide, _, rfl, hK⟩⟩
  have e0 : wish.filterMap (fun t => some (D.int t.col)) = (wish.map (·.col)).map fun (k : Nat) => D.int k := by
    rw [List.map_map, List.filterMap_eq_map']; rfl
  rw [List.nil_append, e0]
  conv => whnf
  refine ⟨wish.map (·.col), rfl, rfl, ?_, ?_⟩
  · intro k hk
    obtain ⟨t, ht, rfl⟩ := List.mem_map.mp hk
    exact h6 t ht
  refine ⟨_, rfl, ?_⟩
  generalize hks : keysOf (bitsOf (wish.map (·.col))) = ks at *
  have hk6 : ks.length ≤ 6 := by rw [← hks]; exact keys_le _
  refine forS_inv (fun k ρ σ' => σ' = σ.set a (.mlist (((ks.take k).map (entT wish)).map dT)) ∧ ∃ o2 o3 o4, ρ = [some (.list (wish.map dT)), some (.obj a), o2, o3, o4, none, none, none]) (fun _ _ _ _ => trivial) ?_ ?_ ⟨rfl, none, none, none, rfl⟩
  · rintro k d ρ σ' K hd ⟨rfl, o2, o3, o4, rfl⟩ hK
    have hk : k < ks.length := by
      have := (List.getElem?_eq_some_iff.mp hd).1; simpa using this
    rw [get_map (fun (j : Nat) => D.int j) hk] at hd
    cases hd
    have hK' : ∀ o2 o3 o4, K [some (.list (wish.map dT)), some (.obj a), o2, o3, o4, none, none, none] (σ.set a (.mlist (((ks.take k).map (entT wish)).map dT ++ [dT (entT wish ks[k])]))) := fun o2 o3 o4 => hK _ _ ⟨by
      rw [List.take_succ_eq_append_getElem hk, List.map_append, List.map_append]; rfl, o2, o3, o4, rfl⟩
    clear hK
    generalize hcc : ks[k] = cc at hK' ⊢
    generalize hxs : ((ks.take k).map (entT wish)).map dT = xs at hK' ⊢
    have hxl : xs.length ≤ 6 := by rw [← hxs]; simp; omega
    conv => whnf
    refine ⟨_, rfl, small_ok (by simp; omega), ?_⟩
    refine compS_mapG dT (fun t => (if t.col = cc then t.lo else none).map D.int) trivial _ _ ?_ ?_
    · intro t ht K2 hK2
      obtain ⟨c, lo, hi⟩ := t
      conv => whnf
      refine ⟨_, rfl, small_ok (by simp), .inl ⟨by decide, _, rfl, ?_⟩⟩
      conv => whnf
      rw [nat_dec]
      by_cases hc : c = cc
      · rw [decide_eq_true hc]
        dsimp only at hK2
        rw [if_pos hc] at hK2
        refine and_ff' ?_
        conv => whnf
        refine ⟨_, rfl, small_ok (by simp), .inl ⟨by decide, _, rfl, ?_⟩⟩
        cases lo with
        | none =>
          conv => whnf
          refine ⟨_, rfl, ?_⟩
          conv => whnf
          refine and_tf' ?_
          conv => whnf
          refine and_ff ?_
          conv => whnf
          exact and_ff hK2
        | some lo =>
          conv => whnf
          refine ⟨_, rfl, ?_⟩
          conv => whnf
          refine and_ff' ?_
          conv => whnf
          refine and_tt ?_
          conv => whnf
          refine and_tt ?_
          conv => whnf
          exact ⟨_, rfl, small_ok (by simp), .inl ⟨by decide, _, rfl, hK2⟩⟩
      · rw [decide_eq_false hc]
        dsimp only at hK2
        rw [if_neg hc] at hK2
        refine and_tf' ?_
        conv => whnf
        refine and_ff ?_
        conv => whnf
        exact and_ff hK2
    rw [List.nil_append, filterMap_int]
    conv => whnf
    refine ⟨_, rfl, small_ok (by simp; omega), ?_⟩
    refine compS_mapG dT (fun t => (if t.col = cc then t.hi else none).map D.int) trivial _ _ ?_ ?_
    · intro t ht K2 hK2
      obtain ⟨c, lo, hi⟩ := t
      conv => whnf
      refine ⟨_, rfl, small_ok (by simp), .inl ⟨by decide, _, rfl, ?_⟩⟩
      conv => whnf
      rw [nat_dec]
      by_cases hc : c = cc
      · rw [decide_eq_true hc]
        dsimp only at hK2
        rw [if_pos hc] at hK2
        refine and_ff' ?_
        conv => whnf
        refine ⟨_, rfl, small_ok (by simp), .inl ⟨by decide, _, rfl, ?_⟩⟩
        cases hi with
        | none =>
          conv => whnf
          refine ⟨_, rfl, ?_⟩
          conv => whnf
          refine and_tf' ?_
          conv => whnf
          refine and_ff ?_
          conv => whnf
          exact and_ff hK2
        | some hi =>
          conv => whnf
          refine ⟨_, rfl, ?_⟩
          conv => whnf
          refine and_ff' ?_
          conv => whnf
          refine and_tt ?_
          conv => whnf
          refine and_tt ?_
          conv => whnf
          exact ⟨_, rfl, small_ok (by simp), .inl ⟨by decide, _, rfl, hK2⟩⟩
      · rw [decide_eq_false hc]
        dsimp only at hK2
        rw [if_neg hc] at hK2
        refine and_tf' ?_
        conv => whnf
        refine and_ff ?_
        conv => whnf
        exact and_ff hK2
    rw [List.nil_append, filterMap_int]
    conv => whnf
    refine ⟨⟨xs, set_at _ _ _⟩, ?_⟩
    conv => whnf
    refine ⟨lowsF wish cc, rfl, rfl, ?_⟩
    conv => whnf
    refine ⟨highsF wish cc, rfl, rfl, ?_⟩
    conv => whnf
    refine ⟨rfl, ?_⟩
    conv => whnf
    refine ⟨xs, set_at _ _ _, small_ok (by omega), ?_⟩
    rw [set_set]
    exact hK' _ _ _
  · rintro ρ σ' ⟨rfl, o2, o3, o4, rfl⟩
    rw [List.length_map, List.take_length]
    exact retS_frz hf h
noncomputable def hasC (wish : List Tr) (c : Nat) : Bool := wish.any fun t => decide (t.col = c)
theorem bitsGo_test : ∀ (ns : List Nat) (f k : Nat), (ns.foldl (fun f k => f ||| 2 ^ k) f).testBit k = (f.testBit k || ns.any fun j => decide (j = k))
  | [], f, k => by simp
  | j :: r, f, k => by
    rw [List.foldl_cons, bitsGo_test r, Nat.testBit_or, Nat.testBit_two_pow, List.any_cons, Bool.or_assoc]
theorem keys_eq (wish : List Tr) : keysOf (bitsOf (wish.map (·.col))) = (List.range 6).filter (hasC wish) := by
  unfold keysOf
  congr 1
  funext k
  unfold bitsOf hasC
  rw [bitsGo_test]
  simp [List.any_map, Function.comp_def]


noncomputable def dTo : Option Tr → D
  | none => .none
  | some t => dT t
noncomputable def S_tripof : Spec := fun ds σ Φ => ∃ (ts : List Tr) (c : Nat), ds = [.list (ts.map dT), .int c] ∧ ts.length ≤ 1000 ∧ Φ (dTo (ts.find? fun t => decide (t.col = c))) σ
theorem find_drop {ts : List Tr} {c k : Nat} (h : ∀ i (hi : i < ts.length), i < k → ts[i].col ≠ c) : ts.find? (fun t => decide (t.col = c)) = (ts.drop k).find? fun t => decide (t.col = c) := by
  induction k generalizing ts with
  | zero => simp
  | succ k ih =>
    cases ts with
    | nil => simp
    | cons t r =>
      have h0 := h 0 (by simp) (by omega)
      simp only [List.getElem_cons_zero] at h0
      rw [List.find?_cons, decide_eq_false h0, List.drop_succ_cons]
      exact ih fun i hi hk => by have := h (i + 1) (by simpa using hi) (by omega); simpa using this
theorem tripof_vc (S : Nat → Spec) (ds : List D) (σ : Store) (Φ : D → Store → Prop) (h : S_tripof ds σ Φ) : ds.length = [0, 1].length ∧ vcSs S p_triple_of (initE [0, 1] ds 3) σ (retS Φ) := by
  obtain ⟨ts, c, rfl, hl, h⟩ := h
  refine ⟨rfl, ?_⟩
  conv => whnf
  refine ⟨_, rfl, ?_⟩
  refine forS_inv (fun k ρ σ' => σ' = σ ∧ (∃ o, ρ = [some (.list (ts.map dT)), some (.int c), o]) ∧ ∀ i (hi : i < ts.length), i < k → ts[i].col ≠ c) (fun _ _ _ _ => trivial) ?_ ?_ ⟨rfl, ⟨none, rfl⟩, fun i hi hk => by omega⟩
  · rintro k d ρ σ' K hd ⟨rfl, ⟨o, rfl⟩, hno⟩ hK
    have hk : k < ts.length := by
      have := (List.getElem?_eq_some_iff.mp hd).1; simpa using this
    rw [get_map dT hk] at hd
    cases hd
    conv => whnf
    refine ⟨_, rfl, small_ok (by simp), .inl ⟨by decide, _, rfl, ?_⟩⟩
    conv => whnf
    rw [nat_dec]
    refine and_decide (fun hc => ?_) (fun hc => ?_)
    · conv => whnf
      refine retS_ret ?_
      rw [find_drop hno, List.drop_eq_getElem_cons hk, List.find?_cons, decide_eq_true hc] at h
      exact h
    · refine hK _ _ ⟨rfl, ⟨_, rfl⟩, fun i hi hik => ?_⟩
      by_cases q : i = k
      · subst q; exact hc
      · exact hno i hi (by omega)
  · rintro ρ σ' ⟨rfl, ⟨o, rfl⟩, hno⟩
    conv => whnf
    refine retS_ret ?_
    rw [find_drop hno, List.length_map, List.drop_length] at h
    exact h

noncomputable def askF (wish : List Tr) : List Tr := ((List.range 6).filter (hasC wish)).map (entT wish)
theorem ask_find (wish : List Tr) (c : Nat) (hc : c < 6) : (askF wish).find? (fun t => decide (t.col = c)) = if hasC wish c then some (entT wish c) else none := by
  unfold askF
  rw [List.find?_map]
  have e : ((List.range 6).filter (hasC wish)).find? ((fun t : Tr => decide (t.col = c)) ∘ entT wish) = if hasC wish c then some c else none := by
    by_cases hh : hasC wish c = true
    · rw [if_pos hh, List.find?_eq_some_iff_append]
      have hm : c ∈ (List.range 6).filter (hasC wish) := List.mem_filter.mpr ⟨List.mem_range.mpr hc, hh⟩
      obtain ⟨s, t, hst⟩ := List.append_of_mem hm
      have hnd : ((List.range 6).filter (hasC wish)).Nodup := List.nodup_range.filter _
      refine ⟨by simp [entT], s, t, hst, fun y hy => ?_⟩
      rw [hst] at hnd
      have : y ≠ c := fun q => by
        subst q
        rw [List.nodup_append] at hnd
        exact hnd.2.2 y hy y List.mem_cons_self rfl
      simp [entT, this]
    · rw [if_neg hh, List.find?_eq_none]
      intro x hx
      have hx2 := (List.mem_filter.mp hx).2
      simp only [Function.comp, entT]
      intro q
      have := of_decide_eq_true q
      subst this; exact hh hx2
  rw [e]
  by_cases hh : hasC wish c = true
  · rw [if_pos hh, if_pos hh]; rfl
  · rw [if_neg hh, if_neg hh]; rfl

noncomputable def boundsF (wish : List Tr) : List Nat → List Int × Option Tr
  | [] => ([], none)
  | c :: r => if hasC wish c then (match (entT wish c).lo with
      | none => ([], some (entT wish c))
      | some l => if (entT wish c).hi = some l then (l :: (boundsF wish r).1, (boundsF wish r).2) else ([], some (entT wish c))) else ([], none)

theorem boundsF_nil (wish : List Tr) : boundsF wish [] = ([], none) := rfl
theorem boundsF_cons (wish : List Tr) (c : Nat) (r : List Nat) : boundsF wish (c :: r) = if hasC wish c then (match (entT wish c).lo with
      | none => ([], some (entT wish c))
      | some l => if (entT wish c).hi = some l then (l :: (boundsF wish r).1, (boundsF wish r).2) else ([], some (entT wish c))) else ([], none) := rfl
theorem dOpt_pl (n : Nat) (o : Option Int) : pl n (dOpt o) := by
  cases o <;> cases n <;> simp [dOpt, pl]

theorem bounds_len (wish : List Tr) : ∀ cols : List Nat, (boundsF wish cols).1.length ≤ cols.length
  | [] => Nat.le_refl _
  | c :: r => by
    unfold boundsF
    split
    · split
      · simp
      · split
        · simpa using bounds_len wish r
        · simp
    · simp

noncomputable def S_bounds : Spec := fun ds σ Φ => ∃ a cols E dx e wish, ds = [.obj a, .list (List.map dT wish)] ∧ KeptAt σ a cols E dx e ∧ cols.length ≤ 100 ∧ (∀ c ∈ cols, c < 6) ∧ wish.length ≤ 1000 ∧ (∀ t ∈ wish, t.col < 6) ∧
  ∀ p, freshIn σ p → Φ (.tuple [.obj p, dTo (boundsF wish cols).2]) (σ.set p (.mlist ((boundsF wish cols).1.map D.int)))
theorem bounds_vc (S : Nat → Spec) (h9 : S 9 = S_merged) (h10 : S 10 = S_tripof) (ds : List D) (σ : Store) (Φ : D → Store → Prop) (h : S_bounds ds σ Φ) : ds.length = [0, 1].length ∧ vcSs S p_Kept_bounds (initE [0, 1] ds 6) σ (retS Φ) := by
  obtain ⟨a, cols, E, dx, e, wish, rfl, hk, hcl, hc6, hwl, hw6, h⟩ := h
  refine ⟨rfl, ?_⟩
  conv => whnf
  rw [h9]
  refine ⟨wish, rfl, hwl, hw6, ?_⟩
  rw [keys_eq]
  conv => whnf
  refine ⟨rfl, ?_⟩
  intro p hf
  have hpa : a ≠ p := fun q => by have := hf.1; rw [← q, hk.obj] at this; cases this
  have hk2 : ∀ m, (σ.set p m) a = some (.inst CK dx (fsK (dN cols) e)) := fun m => by rw [set_ne hpa]; exact hk.obj
  conv => whnf
  refine ⟨a, dx, _, _, rfl, hk2 _, col_f _ _, ?_⟩
  refine ⟨_, rfl, ?_⟩
  refine forS_inv (fun k ρ σ' => ∃ pin : List Int, σ' = σ.set p (.mlist (pin.map D.int)) ∧ (∃ o4 o5, ρ = [some (.obj a), some (.list (List.map dT wish)), some (.list (List.map dT (askF wish))), some (.obj p), o4, o5]) ∧ pin.length ≤ k ∧
    boundsF wish cols = (pin ++ (boundsF wish (cols.drop k)).1, (boundsF wish (cols.drop k)).2)) (fun _ _ _ _ => trivial) ?_ ?_ ⟨[], rfl, ⟨none, none, rfl⟩, Nat.le_refl _, by simp⟩
  · rintro k d ρ σ' K hd ⟨pin, rfl, ⟨o4, o5, rfl⟩, hpl, hb⟩ hK
    have hkc : k < cols.length := by
      have := (List.getElem?_eq_some_iff.mp hd).1; simpa using this
    rw [get_map (fun (j : Nat) => D.int j) hkc] at hd
    cases hd
    conv => whnf
    rw [h10]
    have hask : (askF wish).length ≤ 1000 := by
      unfold askF
      rw [List.length_map]
      exact Nat.le_trans (List.length_filter_le _ _) (by simp)
    refine ⟨askF wish, cols[k], rfl, hask, ?_⟩
    rw [ask_find wish _ (hc6 _ (List.getElem_mem _))]
    rw [List.drop_eq_getElem_cons hkc, boundsF_cons] at hb
    have hout : ∀ (x : Option Tr), boundsF wish cols = (pin, x) → retS Φ (.ret (.tuple [.obj p, dTo x]) (σ.set p (.mlist (pin.map D.int)))) := fun x hx => by
      have h' := h p hf
      rw [hx] at h'
      exact retS_ret h'
    by_cases hh : hasC wish cols[k] = true
    · rw [if_pos hh] at hb ⊢
      generalize ht : entT wish cols[k] = t at hb ⊢
      obtain ⟨tc, lo, hi⟩ := t
      conv => whnf
      refine ⟨_, rfl, ?_⟩
      conv => whnf
      refine ⟨fun q => ?_, fun q => ?_⟩ <;> cases q
      conv => whnf
      refine ⟨_, rfl, small_ok (by simp), .inl ⟨by decide, _, rfl, ?_⟩⟩
      cases lo with
      | none =>
        conv => whnf
        refine ⟨_, rfl, ?_⟩
        conv => whnf
        refine ⟨fun q => ?_, fun q => ?_⟩ <;> cases q
        conv => whnf
        refine ⟨fun q => ?_, fun q => ?_⟩ <;> cases q
        conv => whnf
        refine ⟨rfl, ?_⟩
        exact hout _ (by rw [hb, List.append_nil])
      | some l =>
        conv => whnf
        refine ⟨_, rfl, ?_⟩
        conv => whnf
        refine ⟨fun q => ?_, fun q => ?_⟩ <;> cases q
        conv => whnf
        refine ⟨_, rfl, small_ok (by simp), .inl ⟨by decide, _, rfl, ?_⟩⟩
        conv => whnf
        refine ⟨_, rfl, small_ok (by simp), .inl ⟨by decide, _, rfl, ?_⟩⟩
        cases hi with
        | none =>
          conv => whnf
          obtain ⟨x, y, t, e1, e2, s1, s2, e3, ht'⟩ := pl2 (a := .int l) (b := .none) (σ.set p (.mlist (pin.map D.int))) (dOpt_pl 20 (some l)) (dOpt_pl 20 none)
          refine ⟨x, y, e1, e2, s1, s2, ?_⟩
          rw [e3]
          have : t = false := by
            cases t with
            | false => rfl
            | true => exact absurd (ht'.mp rfl) (by intro q; cases q)
          subst this
          conv => whnf
          refine ⟨fun q => ?_, fun q => ?_⟩ <;> cases q
          conv => whnf
          refine ⟨fun q => ?_, fun q => ?_⟩ <;> cases q
          conv => whnf
          refine ⟨rfl, ?_⟩
          exact hout _ (by rw [hb]; simp)
        | some h' =>
          conv => whnf
          refine and_not_decide (fun hne => ?_) (fun he => ?_)
          · conv => whnf
            refine ⟨fun q => ?_, fun q => ?_⟩ <;> cases q
            conv => whnf
            refine ⟨rfl, ?_⟩
            dsimp only at hb
            rw [if_neg (by intro q; cases q; exact hne rfl)] at hb
            exact hout _ (by rw [hb]; simp)
          · subst he
            simp only [if_true] at hb
            conv => whnf
            refine ⟨fun q => ?_, fun q => ?_⟩ <;> cases q
            conv => whnf
            refine ⟨⟨_, set_at _ _ _⟩, ?_⟩
            conv => whnf
            refine ⟨_, rfl, small_ok (by simp), .inl ⟨by decide, _, rfl, ?_⟩⟩
            conv => whnf
            refine ⟨_, set_at _ _ _, small_ok (by simp; omega), ?_⟩
            conv => whnf
            rw [set_set]
            refine hK _ _ ⟨pin ++ [l], by rw [List.map_append]; rfl, ⟨_, _, rfl⟩, by simp; omega, ?_⟩
            rw [hb]; simp
    · rw [if_neg hh] at hb ⊢
      conv => whnf
      refine ⟨_, rfl, ?_⟩
      conv => whnf
      refine ⟨fun q => ?_, fun q => ?_⟩ <;> cases q
      conv => whnf
      refine ⟨fun q => ?_, fun q => ?_⟩ <;> cases q
      conv => whnf
      refine ⟨rfl, ?_⟩
      exact hout none (by rw [hb, List.append_nil])
  · rintro ρ σ' ⟨pin, rfl, ⟨o4, o5, rfl⟩, hpl, hb⟩
    rw [List.length_map, List.drop_length, boundsF_nil, List.append_nil] at hb
    conv => whnf
    refine ⟨rfl, ?_⟩
    have h' := h p hf
    rw [hb] at h'
    exact retS_ret h'
end Mine.L06

open PySem PyProof.Rows
set_option Elab.async false
set_option maxRecDepth 20000
namespace Mine.L06

theorem eqP_obj {σ : Store} {p : Addr} {xs : List D} (h : σ p = some (.mlist xs)) : eqP σ (.obj p) = D.py (.list xs) := by simp [eqP, h, D.py]

noncomputable def hiKey : List Int → Option Int → Option (List Int)
  | [], none => none
  | [], some h => some [h + 1]
  | v :: P, hi => match hiKey P hi with
    | none => some [v + 1]
    | some B => some (v :: B)
noncomputable def loKey (P : List Int) (lo : Option Int) : List Int := P ++ lo.toList
theorem hiKey_none : ∀ (P : List Int) (hP : P ≠ []), hiKey P none = some (P.take (P.length - 1) ++ [P.getLast hP + 1])
  | [v], _ => rfl
  | v :: u :: P, _ => by
    have ih := hiKey_none (u :: P) (by simp)
    unfold hiKey
    rw [ih]
    simp
theorem hiKey_some (h : Int) : ∀ P : List Int, hiKey P (some h) = some (P ++ [h + 1])
  | [] => rfl
  | v :: P => by
    unfold hiKey
    rw [hiKey_some h P]
    rfl
noncomputable def cntO (E : List (List Int)) : Option (List Int) → Nat
  | none => E.length
  | some B => cntF E B
theorem cntO_le (E : List (List Int)) (B : Option (List Int)) : cntO E B ≤ E.length := by
  cases B with
  | none => exact Nat.le_refl _
  | some B => exact cnt_le E B

noncomputable def S_behind : Spec := fun ds σ Φ => ∃ a cols E dx e p P, ds = [.obj a, .obj p] ∧ KeptAt σ a cols E dx e ∧ SzE cols E ∧ σ p = some (.mlist (List.map D.int P)) ∧ P.length ≤ 100 ∧ Φ (.int (cntO E (hiKey P none))) σ
theorem behind_vc (S : Nat → Spec) (h8 : S 8 = S_below) (ds : List D) (σ : Store) (Φ : D → Store → Prop) (h : S_behind ds σ Φ) : ds.length = [0, 1].length ∧ vcSs S p_Kept_behind (initE [0, 1] ds 2) σ (retS Φ) := by
  obtain ⟨a, cols, E, dx, e, p, P, rfl, hk, hz, hp, hpl, h⟩ := h
  have hn := hz.n
  refine ⟨rfl, ?_⟩
  conv => whnf
  refine ⟨rfl, ?_⟩
  conv => whnf
  obtain ⟨x, y, t, e1, e2, s1, s2, e3, ht'⟩ := pl2 (a := dI P) (b := dI []) σ (pl_ints P) (pl_ints [])
  refine ⟨x, y, by rw [eqP_obj hp]; rwa [pl_eqP (pl_ints P)] at e1, e2, s1, s2, ?_⟩
  rw [e3]
  cases P with
  | nil =>
    have : t = true := ht'.mpr rfl
    subst this
    conv => whnf
    refine ⟨fun q => ?_, fun q => ?_⟩ <;> cases q
    conv => whnf
    refine ⟨a, dx, _, _, rfl, hk.obj, ent_f _ _, ?_⟩
    refine ⟨_, asL_ent hk.ents, small_ok (by simp; omega), ?_⟩
    rw [List.length_map]
    exact retS_ret h
  | cons v P =>
    have : t = false := by
      cases t with
      | false => rfl
      | true => have := ht'.mp rfl; simp at this
    subst this
    conv => whnf
    refine ⟨fun q => ?_, fun q => ?_⟩ <;> cases q
    conv => whnf
    refine ⟨a, dx, _, _, rfl, hk.obj, ent_f _ _, ?_⟩
    conv => whnf
    refine ⟨_, none, some (-1), asL_ent hp, rfl, rfl, rfl, small_ok (by simp at hpl ⊢; omega), ?_⟩
    conv => whnf
    refine ⟨_, asL_ent hp, small_ok (by simp at hpl ⊢; omega), .inr ⟨rfl, .int ((v :: P).getLast (by simp)), by rw [List.getLast?_map, List.getLast?_eq_some_getLast (by simp)]; rfl, ?_⟩⟩
    conv => whnf
    refine ⟨rfl, ?_⟩
    conv => whnf
    have hkey := hiKey_none (v :: P) (by simp)
    have esl : sliceD (List.map D.int (v :: P)) none (some (-1)) = ((v :: P).take ((v :: P).length - 1)).map D.int := by
      unfold sliceD clipAt
      simp
      omega
    rw [esl]
    refine ⟨small_ok (by simp at hpl ⊢; omega), ?_⟩
    conv => whnf
    rw [h8]
    have eapp : ((v :: P).take ((v :: P).length - 1)).map D.int ++ [D.int ((v :: P).getLast (by simp) + 1)] = ((v :: P).take ((v :: P).length - 1) ++ [(v :: P).getLast (by simp) + 1]).map D.int := by simp
    rw [hkey] at h
    refine ⟨_, _, E, _, cntF E _, rfl, asL_ent hk.ents, congrArg some eapp, by omega, by simp at hpl ⊢; omega, fun r hr' => by rw [hz.r r hr']; have := hz.c; omega, cnt_le _ _, fun i hi => hz.s.prefix _ i hi, ?_⟩
    exact retS_ret h

noncomputable def resE (E : List (List Int)) (s t : Nat) : List Int := ((E.drop s).take (t - s)).map fun e => e.getLast?.getD 0

theorem fresh_set {σ : Store} {p r : Addr} {xs : List D} (hp : σ p = none) (h : freshIn (σ.set p (.mlist xs)) r) : freshIn σ r ∧ r ≠ p := by
  have hne : r ≠ p := fun q => by have := h.1; rw [q, set_at] at this; cases this
  refine ⟨⟨by have := h.1; rwa [set_ne hne] at this, fun x C fs e => ?_⟩, hne⟩
  by_cases q : x = p
  · rw [q, hp] at e; cases e
  · exact h.2 x C fs (by rw [set_ne q]; exact e)

noncomputable def loO (o : Option Tr) : Option Int := o.bind (·.lo)
noncomputable def hiO (o : Option Tr) : Option Int := o.bind (·.hi)
noncomputable def loC (wish : List Tr) (cols : List Nat) (E : List (List Int)) : Nat := cntF E (loKey (boundsF wish cols).1 (loO (boundsF wish cols).2))
noncomputable def hiC (wish : List Tr) (cols : List Nat) (E : List (List Int)) : Nat := cntO E (hiKey (boundsF wish cols).1 (hiO (boundsF wish cols).2))

noncomputable def S_stretch : Spec := fun ds σ Φ => ∃ a cols E dx e wish, ds = [.obj a, .list (List.map dT wish)] ∧ KeptAt σ a cols E dx e ∧ SzE cols E ∧ (∀ c ∈ cols, c < 6) ∧ wish.length ≤ 1000 ∧ (∀ t ∈ wish, t.col < 6) ∧
  ∀ r, freshIn σ r → Φ (.obj r) (σ.set r (.mlist ((resE E (loC wish cols E) (hiC wish cols E)).map D.int)))

noncomputable abbrev EnvS (a : Addr) (wish : List Tr) (fo p : D) (rg : D) (st en : Int) : PEnv := [some (.obj a), some (.list (List.map dT wish)), some fo, some p, some rg, some (.int st), some (.int en), none]

/-- the last row of stretch: the comprehension -/
theorem stretch_end (S : Nat → Spec) {a : Addr} {cols : List Nat} {E : List (List Int)} {dx e p : Addr} {wish : List Tr} {fo rg : D} {st en : Nat} {P : List Int} {σ : Store} {Φ : D → Store → Prop}
    (hk : KeptAt σ a cols E dx e) (hz : SzE cols E) (hpf : freshIn σ p) (hst : st ≤ E.length) (hen : en ≤ E.length)
    (h : ∀ r, freshIn σ r → Φ (.obj r) (σ.set r (.mlist ((resE E st en).map D.int)))) :
    vcSs S (p_Kept_stretch.drop 7) (EnvS a wish fo (.obj p) rg st en) (σ.set p (.mlist (P.map D.int))) (retS Φ) := by
  have hn := hz.n
  have hpa : a ≠ p := fun q => by have := hpf.1; rw [← q, hk.obj] at this; cases this
  have hpe : e ≠ p := fun q => by have := hpf.1; rw [← q, hk.ents] at this; cases this
  have hk2 : KeptAt (σ.set p (.mlist (P.map D.int))) a cols E dx e := ⟨by rw [set_ne hpa]; exact hk.obj, by rw [set_ne hpe]; exact hk.ents⟩
  conv => whnf
  refine ⟨by unfold small; omega, by unfold small; omega, by unfold small; omega, by unfold small; omega, ?_⟩
  refine ⟨by rw [rangeD2_length]; exact small_ok (by omega), ?_⟩
  have e0 : rangeD2 (st : Int) (en : Int) = (List.range (en - st)).map fun (i : Nat) => D.int ((st : Int) + i) := by
    unfold rangeD2; rw [show ((en : Int) - st).toNat = en - st by omega]
  rw [e0]
  refine compS_mapG (fun (i : Nat) => D.int ((st : Int) + i)) (fun i => some (.int ((E.getD (st + i) []).getLast?.getD 0))) trivial _ _ ?_ ?_
  · intro i hi K hK
    have hi' := List.mem_range.mp hi
    have hlt : st + i < E.length := by omega
    conv => whnf
    refine ⟨fun q => ?_, fun q => ?_⟩ <;> cases q
    conv => whnf
    refine ⟨a, dx, _, _, rfl, hk2.obj, ent_f _ _, ?_⟩
    have et : ((st : Int) + (i : Int)).toNat = st + i := by omega
    refine ⟨_, asL_ent hk2.ents, small_ok (by simp; omega), .inl ⟨by omega, _, by rw [et]; exact get_map dI hlt, ?_⟩⟩
    conv => whnf
    have hr := hz.r _ (List.getElem_mem hlt)
    have hne : E[st + i] ≠ [] := fun q => by rw [q] at hr; simp at hr
    have hcz := hz.c
    refine ⟨_, rfl, small_ok (by simp; omega), .inr ⟨rfl, .int ((E.getD (st + i) []).getLast?.getD 0), ?_, hK⟩⟩
    rw [List.getLast?_map, List.getD_eq_getElem?_getD, List.getElem?_eq_getElem hlt, Option.getD_some, List.getLast?_eq_some_getLast hne]
    rfl
  rw [List.nil_append]
  intro r hfr
  obtain ⟨hr1, hr2⟩ := fresh_set hpf.1 hfr
  have eres : (List.range (en - st)).filterMap (fun i => some (D.int ((E.getD (st + i) []).getLast?.getD 0))) = (resE E st en).map D.int := by
    unfold resE
    rw [List.filterMap_eq_map', List.map_map]
    apply List.ext_getElem
    · simp; omega
    · intro n h1 h2
      simp only [List.length_map, List.length_range] at h1
      have hlt : st + n < E.length := by omega
      simp only [List.getElem_map, List.getElem_range, List.getElem_take, List.getElem_drop, Function.comp]
      rw [List.getD_eq_getElem?_getD, List.getElem?_eq_getElem hlt, Option.getD_some]
  rw [eres]
  refine ⟨.obj r, σ.set r (.mlist ((resE E st en).map D.int)), ⟨fun x m hx => ?_, .inl rfl⟩, h r hr1⟩
  by_cases q : x = r
  · subst q; rw [set_at] at hx ⊢; exact hx
  · rw [set_ne q] at hx ⊢
    have : x ≠ p := fun q' => by rw [q', hpf.1] at hx; cases hx
    rw [set_ne this]; exact hx
end Mine.L06

open PySem PyProof.Rows
set_option Elab.async false
set_option maxRecDepth 20000
namespace Mine.L06

theorem below_at {S : Nat → Spec} (h8 : S 8 = S_below) {cols : List Nat} {E : List (List Int)} {e : Addr} {key : List Int} {v : D} {σ : Store} {Φ : D → Store → Prop} (he : σ e = some (.mlist (E.map dI))) (hz : SzE cols E) (hv : asL σ v = some (key.map D.int)) (hl : key.length ≤ 1000)
    (h : Φ (.int (cntF E key)) σ) : S 8 [.obj e, v] σ Φ := by
  rw [h8]
  have hn := hz.n
  have hc := hz.c
  exact ⟨_, _, E, key, cntF E key, rfl, asL_ent he, hv, by omega, hl, fun r hr => by rw [hz.r r hr]; omega, cnt_le _ _, fun i hi => hz.s.prefix _ i hi, h⟩

set_option maxHeartbeats 2000000 in
theorem stretch_vc (S : Nat → Spec) (h8 : S 8 = S_below) (h11 : S 11 = S_bounds) (h12 : S 12 = S_behind) (ds : List D) (σ : Store) (Φ : D → Store → Prop) (h : S_stretch ds σ Φ) : ds.length = [0, 1].length ∧ vcSs S p_Kept_stretch (initE [0, 1] ds 8) σ (retS Φ) := by
  obtain ⟨a, cols, E, dx, e, wish, rfl, hk, hz, hc6, hwl, hw6, h⟩ := h
  have hn := hz.n
  have hcc := hz.c
  refine ⟨rfl, ?_⟩
  conv => whnf
  refine ⟨⟨a, dx, _, rfl, hk.obj, no_f _ _ (by decide) (by decide)⟩, ?_⟩
  conv => whnf
  rw [h11]
  refine ⟨a, cols, E, dx, e, wish, rfl, hk, hcc, hc6, hwl, hw6, fun p hpf => ?_⟩
  have hPl := bounds_len wish cols
  unfold loC hiC at h
  generalize boundsF wish cols = B at h hPl ⊢
  obtain ⟨P, rg⟩ := B
  dsimp only at h hPl ⊢
  have hpa : a ≠ p := fun q => by have := hpf.1; rw [← q, hk.obj] at this; cases this
  have hpe : e ≠ p := fun q => by have := hpf.1; rw [← q, hk.ents] at this; cases this
  have hk2 : KeptAt (σ.set p (.mlist (P.map D.int))) a cols E dx e := ⟨by rw [set_ne hpa]; exact hk.obj, by rw [set_ne hpe]; exact hk.ents⟩
  have hps : (σ.set p (.mlist (P.map D.int))) p = some (.mlist (P.map D.int)) := set_at _ _ _
  conv => whnf
  refine ⟨_, rfl, small_ok (by simp), .inl ⟨by decide, _, rfl, ?_⟩⟩
  conv => whnf
  refine ⟨_, rfl, small_ok (by simp), .inl ⟨by decide, _, rfl, ?_⟩⟩
  conv => whnf
  refine ⟨a, dx, _, _, rfl, hk2.obj, ent_f _ _, ?_⟩
  conv => whnf
  refine below_at (key := P) h8 hk2.ents hz (asL_ent hps) (by omega) ?_
  conv => whnf
  refine ⟨⟨a, dx, _, rfl, hk2.obj, no_f _ _ (by decide) (by decide)⟩, ?_⟩
  conv => whnf
  rw [h12]
  refine ⟨a, cols, E, dx, e, p, P, rfl, hk2, hz, hps, by omega, ?_⟩
  have fin : ∀ (lo hi : Option Int), loO rg = lo → hiO rg = hi → ∀ fo, vcSs S (p_Kept_stretch.drop 7) (EnvS a wish fo (.obj p) (dTo rg) (cntF E (loKey P lo)) (cntO E (hiKey P hi))) (σ.set p (.mlist (P.map D.int))) (retS Φ) := by
    intro lo hi e1 e2 fo
    subst e1; subst e2
    exact stretch_end S hk hz hpf (cnt_le _ _) (cntO_le _ _) h
  have second : ∀ (lo : Option Int), loO rg = lo → ∀ fo, vcSs S (p_Kept_stretch.drop 6) (EnvS a wish fo (.obj p) (dTo rg) (cntF E (loKey P lo)) (cntO E (hiKey P none))) (σ.set p (.mlist (P.map D.int))) (retS Φ) := by
    intro lo e1 fo
    conv => whnf
    cases rg with
    | none =>
      refine ⟨_, rfl, ?_⟩
      conv => whnf
      refine ⟨fun q => ?_, fun q => ?_⟩ <;> cases q
      conv => whnf
      refine ⟨fun q => ?_, fun q => ?_⟩ <;> cases q
      exact fin lo none e1 rfl fo
    | some t =>
      obtain ⟨tc, tl, th⟩ := t
      refine ⟨_, rfl, ?_⟩
      conv => whnf
      refine ⟨fun q => ?_, fun q => ?_⟩ <;> cases q
      conv => whnf
      refine ⟨_, rfl, small_ok (by simp), .inl ⟨by decide, _, rfl, ?_⟩⟩
      cases th with
      | none =>
        conv => whnf
        refine ⟨_, rfl, ?_⟩
        conv => whnf
        refine ⟨fun q => ?_, fun q => ?_⟩ <;> cases q
        conv => whnf
        refine ⟨fun q => ?_, fun q => ?_⟩ <;> cases q
        exact fin lo none e1 rfl fo
      | some v =>
        conv => whnf
        refine ⟨_, rfl, ?_⟩
        conv => whnf
        refine ⟨fun q => ?_, fun q => ?_⟩ <;> cases q
        conv => whnf
        refine ⟨fun q => ?_, fun q => ?_⟩ <;> cases q
        conv => whnf
        refine ⟨a, dx, _, _, rfl, hk2.obj, ent_f _ _, ?_⟩
        conv => whnf
        refine ⟨_, rfl, small_ok (by simp), .inl ⟨by decide, _, rfl, ?_⟩⟩
        conv => whnf
        refine ⟨rfl, ?_⟩
        conv => whnf
        refine ⟨_, _, asL_ent hps, rfl, small_ok (by simp; omega), .inl ⟨rfl, rfl, ?_⟩⟩
        conv => whnf
        refine below_at (key := P ++ [v + 1]) h8 hk2.ents hz (by simp [asL]) (by simp; omega) ?_
        have := fin lo (some v) e1 rfl fo
        rw [hiKey_some] at this
        exact this
  cases rg with
  | none =>
    conv => whnf
    refine ⟨_, rfl, ?_⟩
    conv => whnf
    refine ⟨fun q => ?_, fun q => ?_⟩ <;> cases q
    conv => whnf
    refine ⟨fun q => ?_, fun q => ?_⟩ <;> cases q
    have := second none rfl
    simp only [loKey, Option.toList, List.append_nil] at this
    exact this _
  | some t =>
    obtain ⟨tc, tl, th⟩ := t
    conv => whnf
    refine ⟨_, rfl, ?_⟩
    conv => whnf
    refine ⟨fun q => ?_, fun q => ?_⟩ <;> cases q
    conv => whnf
    refine ⟨_, rfl, small_ok (by simp), .inl ⟨by decide, _, rfl, ?_⟩⟩
    cases tl with
    | none =>
      conv => whnf
      refine ⟨_, rfl, ?_⟩
      conv => whnf
      refine ⟨fun q => ?_, fun q => ?_⟩ <;> cases q
      conv => whnf
      refine ⟨fun q => ?_, fun q => ?_⟩ <;> cases q
      have := second none rfl
      simp only [loKey, Option.toList, List.append_nil] at this
      exact this _
    | some v =>
      conv => whnf
      refine ⟨_, rfl, ?_⟩
      conv => whnf
      refine ⟨fun q => ?_, fun q => ?_⟩ <;> cases q
      conv => whnf
      refine ⟨fun q => ?_, fun q => ?_⟩ <;> cases q
      conv => whnf
      refine ⟨a, dx, _, _, rfl, hk2.obj, ent_f _ _, ?_⟩
      conv => whnf
      refine ⟨_, rfl, small_ok (by simp), .inl ⟨by decide, _, rfl, ?_⟩⟩
      conv => whnf
      refine ⟨rfl, ?_⟩
      conv => whnf
      refine ⟨_, _, asL_ent hps, rfl, small_ok (by simp; omega), .inl ⟨rfl, rfl, ?_⟩⟩
      conv => whnf
      refine below_at (key := P ++ [v]) h8 hk2.ents hz (by simp [asL, dOpt]) (by simp; omega) ?_
      have := second (some v) rfl
      simp only [loKey, Option.toList] at this
      exact this _

noncomputable def S_covers : Spec := fun ds σ Φ => ∃ a cols E dx e wish, ds = [.obj a, .list (List.map dT wish)] ∧ KeptAt σ a cols E dx e ∧ wish.length ≤ 1000 ∧ Φ (.bool (wish.all fun t => cols.contains t.col)) σ
theorem contains_nat (cols : List Nat) (c : Nat) : (cols.map fun (k : Nat) => (k : Int)).contains (c : Int) = cols.contains c := by
  induction cols with
  | nil => rfl
  | cons x r ih =>
    rw [List.map_cons, List.contains_cons, List.contains_cons, ih]
    congr 1
    by_cases h : c = x
    · subst h; simp
    · rw [beq_eq_false_iff_ne.mpr h, beq_eq_false_iff_ne.mpr (by omega)]
theorem all_drop {α : Type} (p : α → Bool) : ∀ (l : List α) (k : Nat), (∀ i (hi : i < l.length), i < k → p l[i] = true) → l.all p = (l.drop k).all p
  | l, 0, _ => by simp
  | [], k + 1, _ => by simp
  | x :: r, k + 1, h => by
    have h0 := h 0 (by simp) (by omega)
    simp only [List.getElem_cons_zero] at h0
    rw [List.all_cons, h0, Bool.true_and, List.drop_succ_cons]
    exact all_drop p r k fun i hi hk => by have := h (i + 1) (by simpa using hi) (by omega); simpa using this
theorem covers_vc (S : Nat → Spec) (ds : List D) (σ : Store) (Φ : D → Store → Prop) (h : S_covers ds σ Φ) : ds.length = [0, 1].length ∧ vcSs S p_Kept_covers (initE [0, 1] ds 3) σ (retS Φ) := by
  obtain ⟨a, cols, E, dx, e, wish, rfl, hk, hwl, h⟩ := h
  refine ⟨rfl, ?_⟩
  conv => whnf
  refine ⟨_, rfl, ?_⟩
  refine forS_inv (fun k ρ σ' => σ' = σ ∧ (∃ o, ρ = [some (.obj a), some (.list (List.map dT wish)), o]) ∧ ∀ i (hi : i < wish.length), i < k → cols.contains wish[i].col = true) (fun _ _ _ _ => trivial) ?_ ?_ ⟨rfl, ⟨none, rfl⟩, fun i hi hk => by omega⟩
  · rintro k d ρ σ' K hd ⟨rfl, ⟨o, rfl⟩, hno⟩ hK
    have hkl : k < wish.length := by
      have := (List.getElem?_eq_some_iff.mp hd).1; simpa using this
    rw [get_map dT hkl] at hd
    cases hd
    conv => whnf
    refine ⟨_, rfl, small_ok (by simp), .inl ⟨by decide, _, rfl, ?_⟩⟩
    refine ⟨a, dx, _, _, rfl, hk.obj, col_f _ _, ?_⟩
    conv => whnf
    refine .inl ⟨cols.map fun (k : Nat) => (k : Int), by simp [asL], ?_⟩
    rw [contains_nat]
    cases hc : cols.contains wish[k].col with
    | true =>
      conv => whnf
      refine ⟨fun q => ?_, fun q => ?_⟩ <;> cases q
      refine hK _ _ ⟨rfl, ⟨_, rfl⟩, fun i hi hik => ?_⟩
      by_cases q : i = k
      · subst q; exact hc
      · exact hno i hi (by omega)
    | false =>
      conv => whnf
      refine ⟨fun q => ?_, fun q => ?_⟩ <;> cases q
      conv => whnf
      refine retS_ret ?_
      rw [all_drop _ wish k hno, List.drop_eq_getElem_cons hkl, List.all_cons, hc, Bool.false_and] at h
      exact h
  · rintro ρ σ' ⟨rfl, ⟨o, rfl⟩, hno⟩
    conv => whnf
    refine retS_ret ?_
    rw [all_drop _ wish wish.length (fun i hi _ => hno i hi (by simpa using hi)), List.drop_length] at h
    exact h
end Mine.L06

open PySem PyProof.Rows
set_option Elab.async false
set_option maxRecDepth 20000
namespace Mine.L06

noncomputable def S_at : Spec := fun ds σ Φ => ∃ sc k, ds = [dI sc, .int k] ∧ sc.length ≤ 1000 ∧ 0 ≤ k ∧ Φ (.int (sc.getD k.toNat 0)) σ
theorem at_vc (S : Nat → Spec) (ds : List D) (σ : Store) (Φ : D → Store → Prop) (h : S_at ds σ Φ) : ds.length = [0, 1].length ∧ vcSs S p_law_at (initE [0, 1] ds 2) σ (retS Φ) := by
  obtain ⟨sc, k, rfl, h1, h2, h⟩ := h
  refine ⟨rfl, ?_⟩
  conv => whnf
  refine ⟨_, rfl, small_ok (by simp; omega), ?_⟩
  conv => whnf
  simp only [List.length_map]
  refine and_decide (fun hlt => ?_) (fun hge => ?_)
  · conv => whnf
    have hk : k.toNat < sc.length := by omega
    refine ⟨_, rfl, small_ok (by simp; omega), .inl ⟨h2, _, get_map_int hk, ?_⟩⟩
    refine retS_ret ?_
    rw [List.getD_eq_getElem?_getD, List.getElem?_eq_getElem hk] at h
    exact h
  · refine retS_ret ?_
    rw [List.getD_eq_getElem?_getD, List.getElem?_eq_none (by omega)] at h
    exact h

noncomputable def S_whole : Spec := fun ds σ Φ => ∃ i, ds = [.int i] ∧ Φ (.bool true) σ
theorem whole_vc (S : Nat → Spec) (ds : List D) (σ : Store) (Φ : D → Store → Prop) (h : S_whole ds σ Φ) : ds.length = [0].length ∧ vcSs S p_law_whole (initE [0] ds 1) σ (retS Φ) := by
  obtain ⟨i, rfl, h⟩ := h
  refine ⟨rfl, ?_⟩
  conv => whnf
  refine ⟨_, rfl, ?_⟩
  conv => whnf
  refine ⟨fun e => Bool.noConfusion e, fun _ => ?_⟩
  conv => whnf
  refine ⟨_, rfl, ?_⟩
  exact retS_ret h


noncomputable def S_value : Spec := fun ds σ Φ => ∃ c, ds = [.int c] ∧ ∀ v, Φ (.int v) σ
theorem value_vc (S : Nat → Spec) (ds : List D) (σ : Store) (Φ : D → Store → Prop) (h : S_value ds σ Φ) : ds.length = [0].length ∧ vcSs S p_law_value (initE [0] ds 1) σ (retS Φ) := by
  obtain ⟨c, rfl, h⟩ := h
  refine ⟨rfl, ?_⟩
  repeat' first
    | exact retS_ret (h _)
    | refine and_decide (fun _ => ?_) (fun _ => ?_)
    | refine ⟨by decide, ?_⟩
    | conv => whnf

theorem compS_dem {α : Type} {step : D → Store → (Option D → Store → Prop) → Prop} {keep : Store → Prop} {σ : Store} (g : α → D) (R : D → Prop) (hk : keep σ) : ∀ (l : List α) (acc : List D) {Ψ : List D → Store → Prop},
    (∀ x ∈ l, ∀ K : Option D → Store → Prop, (∀ r, R r → K (some r) σ) → step (g x) σ K) → (∀ out : List D, out.length = l.length → (∀ r ∈ out, R r) → Ψ (acc ++ out) σ) → compS step keep (l.map g) σ acc Ψ
  | [], acc, Ψ, _, h => by simpa [compS] using h [] rfl (by simp)
  | d :: ds, acc, Ψ, hs, h => by
    simp only [List.map_cons, compS]
    refine hs d List.mem_cons_self _ fun r hr => ⟨hk, compS_dem g R hk ds _ (fun e he => hs e (List.mem_cons_of_mem _ he)) fun out hl hR => ?_⟩
    have := h (r :: out) (by simp [hl]) (fun x hx => by
      rcases List.mem_cons.mp hx with rfl | hx
      · exact hr
      · exact hR x hx)
    simpa using this
theorem dem_list {α : Type} (f : α → D) (P : α → Prop) : ∀ out : List D, (∀ r ∈ out, ∃ x, r = f x ∧ P x) → ∃ xs : List α, out = xs.map f ∧ ∀ x ∈ xs, P x
  | [], _ => ⟨[], rfl, by simp⟩
  | r :: out, h => by
    obtain ⟨x, hx, hp⟩ := h r List.mem_cons_self
    obtain ⟨xs, h1, h2⟩ := dem_list f P out fun y hy => h y (List.mem_cons_of_mem _ hy)
    refine ⟨x :: xs, by rw [hx, h1]; rfl, fun y hy => ?_⟩
    rcases List.mem_cons.mp hy with rfl | hy
    · exact hp
    · exact h2 y hy

/-- a number of not too many bits -/
noncomputable def Bt (B : Nat) (c : Int) : Prop := c.natAbs < 2 ^ B
theorem bits_pow {c m : Int} {B : Nat} (h : Bt B c) (hB : B ≤ 2000000) (hm : m.natAbs < 65536) : (0 : Int) ≤ 3 ∧ (Builtin.Int.intBits (c * 48271 + m) : Int) * 3 ≤ 2 ^ 27 := by
  refine ⟨by decide, ?_⟩
  unfold Bt at h
  have h1 : (c * 48271 + m).natAbs < 2 ^ (B + 17) := by
    have e : 2 ^ (B + 17) = 2 ^ B * 131072 := by rw [Nat.pow_add]
    rw [e]
    have h0 : 0 < 2 ^ B := Nat.pow_pos (by decide)
    generalize 2 ^ B = X at h h0
    omega
  have := PyProof.Rows.intBits_le h1
  omega
theorem bits_add {c m : Int} {B : Nat} (h : Bt B c) (hm : m.natAbs < 256) : Bt (B + 9) (c + m) := by
  unfold Bt at h ⊢
  have e : 2 ^ (B + 9) = 2 ^ B * 512 := by rw [Nat.pow_add]
  rw [e]
  have h0 : 0 < 2 ^ B := Nat.pow_pos (by decide)
  generalize 2 ^ B = X at h h0
  omega

noncomputable def S_row : Spec := fun ds σ Φ => ∃ (c : Int) (w B : Nat), ds = [.int c, .int w] ∧ w ≤ 6 ∧ Bt B c ∧ B ≤ 2000000 ∧ ∀ row : List Int, row.length = w → Φ (dI row) σ
theorem row_vc (S : Nat → Spec) (h16 : S 16 = S_value) (ds : List D) (σ : Store) (Φ : D → Store → Prop) (h : S_row ds σ Φ) : ds.length = [0, 1].length ∧ vcSs S p_law_row (initE [0, 1] ds 3) σ (retS Φ) := by
  obtain ⟨c, w, B, rfl, hw, hb, hB, h⟩ := h
  refine ⟨rfl, ?_⟩
  conv => whnf
  refine ⟨by unfold small; omega, by unfold small; omega, ?_⟩
  refine ⟨by rw [rangeD_length]; exact small_ok (by omega), ?_⟩
  have e0 : rangeD (w : Int) = (List.range w).map fun (i : Nat) => D.int i := by unfold rangeD; rw [Int.toNat_natCast]
  rw [e0]
  refine compS_dem (fun (i : Nat) => D.int i) (fun r => ∃ v, r = .int v ∧ True) trivial _ _ ?_ ?_
  · intro i hi K hK
    have hi' := List.mem_range.mp hi
    conv => whnf
    refine ⟨fun q => ?_, fun q => ?_⟩ <;> cases q
    conv => whnf
    refine ⟨.inr (by decide), ?_⟩
    conv => whnf
    refine ⟨.inl (by decide), ?_⟩
    conv => whnf
    refine ⟨bits_pow hb hB (by omega), ?_⟩
    conv => whnf
    refine ⟨by decide, ?_⟩
    conv => whnf
    rw [h16]
    exact ⟨_, rfl, fun v => hK _ ⟨v, rfl, trivial⟩⟩
  · intro out hl hR
    obtain ⟨xs, rfl, _⟩ := dem_list D.int (fun _ => True) out hR
    rw [List.nil_append]
    refine retS_ret (h xs ?_)
    simpa using hl

theorem erase_map {α β : Type} (f : α → β) : ∀ (l : List α) (i : Nat), (l.map f).eraseIdx i = (l.eraseIdx i).map f
  | [], _ => rfl
  | x :: r, 0 => rfl
  | x :: r, i + 1 => by simp [erase_map f r i]
noncomputable def S_order : Spec := fun ds σ Φ => ∃ (c : Int) (w : Nat), ds = [.int c, .int w] ∧ 1 ≤ w ∧ w ≤ 6 ∧ ∀ cols : List Nat, cols ≠ [] → cols.length ≤ 6 → (∀ c ∈ cols, c < w) → Φ (dN cols) σ
theorem order_vc (S : Nat → Spec) (ds : List D) (σ : Store) (Φ : D → Store → Prop) (h : S_order ds σ Φ) : ds.length = [0, 1].length ∧ vcSs S p_law_order (initE [0, 1] ds 6) σ (retS Φ) := by
  obtain ⟨c, w, rfl, hw1, hw, h⟩ := h
  refine ⟨rfl, ?_⟩
  conv => whnf
  refine ⟨.inr (by decide), ?_⟩
  conv => whnf
  refine ⟨by decide, ?_⟩
  conv => whnf
  refine ⟨by unfold small; omega, by unfold small; omega, ?_⟩
  intro l hfl
  conv => whnf
  refine ⟨rfl, ?_⟩
  intro o hfo
  obtain ⟨ho1, ho2⟩ := fresh_set hfl.1 hfo
  conv => whnf
  refine ⟨by omega, ?_⟩
  conv => whnf
  have hm1 : 0 ≤ c % (w : Int) := Int.emod_nonneg _ (by omega)
  have hm2 : c % (w : Int) < w := Int.emod_lt_of_pos _ (by omega)
  refine ⟨by unfold small; omega, by unfold small; omega, ?_⟩
  have e0 : rangeD (w : Int) = (List.range w).map fun (i : Nat) => D.int i := by unfold rangeD; rw [Int.toNat_natCast]
  refine forS_inv (fun k ρ σ' => ∃ (left ord : List Nat) (m : Int), σ' l = some (.mlist (left.map fun (i : Nat) => D.int i)) ∧ σ' o = some (.mlist (ord.map fun (i : Nat) => D.int i)) ∧ (∀ x, x ≠ l → x ≠ o → σ' x = σ x) ∧ left.length + k = w ∧ ord.length = k ∧ (∀ i ∈ left, i < w) ∧ (∀ i ∈ ord, i < w) ∧
      ∃ o5, ρ = [some (.int c), some (.int w), some (.int m), some (.obj l), some (.obj o), o5]) (fun _ _ _ _ => trivial) ?_ ?_ ?_
  · rintro k d ρ σ' K hd ⟨left, ord, m, hl, ho, hot, hl1, hl2, hl3, hl4, o5, rfl⟩ hK
    obtain ⟨rfl, hk⟩ := rangeD_get hd
    have hlo : l ≠ o := ho2.symm
    conv => whnf
    refine ⟨⟨_, ho⟩, ?_⟩
    conv => whnf
    refine ⟨⟨l, _, rfl, hl⟩, ?_⟩
    conv => whnf
    refine ⟨_, asL_ent hl, small_ok (by simp; omega), ?_⟩
    conv => whnf
    rw [List.length_map]
    refine ⟨by omega, ?_⟩
    have q1 : 0 ≤ m % (left.length : Int) := Int.emod_nonneg _ (by omega)
    have q2 : m % (left.length : Int) < left.length := Int.emod_lt_of_pos _ (by omega)
    have q3 : (m % (left.length : Int)).toNat < left.length := by omega
    conv => whnf
    refine ⟨l, _, _, rfl, hl, q1, get_map (fun (i : Nat) => D.int i) q3, small_ok (by simp; omega), ?_⟩
    conv => whnf
    refine ⟨_, by rw [set_ne hlo.symm]; exact ho, small_ok (by simp; omega), ?_⟩
    conv => whnf
    refine ⟨by decide, ?_⟩
    refine hK _ _ ⟨left.eraseIdx (m % (left.length : Int)).toNat, ord ++ [left[(m % (left.length : Int)).toNat]], _, ?_, ?_, ?_, ?_, ?_, ?_, ?_, _, rfl⟩
    · rw [set_ne hlo, set_at, erase_map]
    · rw [set_at, List.map_append]; rfl
    · intro x h1 h2
      rw [set_ne h2, set_ne h1]; exact hot x h1 h2
    · rw [List.length_eraseIdx_of_lt q3]; omega
    · simp; omega
    · intro i hi; exact hl3 i (List.mem_of_mem_eraseIdx hi)
    · intro i hi
      rcases List.mem_append.mp hi with hi | hi
      · exact hl4 i hi
      · rw [List.mem_singleton.mp hi]; exact hl3 _ (List.getElem_mem _)
  · rintro ρ σ' ⟨left, ord, m, hl, ho, hot, hl1, hl2, hl3, hl4, o5, rfl⟩
    rw [rangeD_length] at hl2
    conv => whnf
    refine ⟨_, asL_ent ho, rfl, small_ok (by simp; omega), ?_⟩
    refine ⟨_, σ, ⟨fun x mo hx => ?_, .inl rfl⟩, h ord (fun q => by rw [q] at hl2; simp at hl2; omega) (by omega) hl4⟩
    have n1 : x ≠ l := fun q => by rw [q, hfl.1] at hx; cases hx
    have n2 : x ≠ o := fun q => by rw [q, ho1.1] at hx; cases hx
    rw [hot x n1 n2]; exact hx
  · refine ⟨List.range w, [], _, ?_, ?_, ?_, ?_, ?_, ?_, ?_, _, rfl⟩
    · rw [set_ne ho2.symm, set_at, e0]
    · rw [set_at]; rfl
    · intro x h1 h2; rw [set_ne h2, set_ne h1]
    · simp
    · rfl
    · intro i hi; exact List.mem_range.mp hi
    · intro i hi; cases hi
end Mine.L06

open PySem PyProof.Rows
set_option Elab.async false
set_option maxRecDepth 20000
namespace Mine.L06

noncomputable def S_triple : Spec := fun ds σ Φ => ∃ (c : Int) (w B : Nat) (rows : List (List Int)), ds = [.int c, .int w, .list (rows.map dI)] ∧ 1 ≤ w ∧ w ≤ 6 ∧ Bt B c ∧ B ≤ 2000000 ∧ rows.length ≤ 1000 ∧ (∀ r ∈ rows, r.length = w) ∧ ∀ t : Tr, t.col < w → Φ (dT t) σ

theorem way_at {k : Nat} (h : k < 8) : ∃ v, [D.int 0, D.int 0, D.int 0, D.int 1, D.int 2, D.int 3, D.int 4, D.int 0][k]? = some (.int v) := by
  match k, h with
  | 0, _ => exact ⟨0, rfl⟩
  | 1, _ => exact ⟨0, rfl⟩
  | 2, _ => exact ⟨0, rfl⟩
  | 3, _ => exact ⟨1, rfl⟩
  | 4, _ => exact ⟨2, rfl⟩
  | 5, _ => exact ⟨3, rfl⟩
  | 6, _ => exact ⟨4, rfl⟩
  | 7, _ => exact ⟨0, rfl⟩

noncomputable abbrev EnvT (c : Int) (w : Nat) (rows : List (List Int)) (col lo hi near : Int) : PEnv := [some (.int c), some (.int w), some (.list (rows.map dI)), some (.int col), some (.int lo), some (.int hi), some (.int near), none]

theorem triple_end (S : Nat → Spec) {c : Int} {w : Nat} {rows : List (List Int)} {col : Nat} {lo hi near : Int} {σ : Store} {Φ : D → Store → Prop} (hc : col < w) (h : ∀ t : Tr, t.col < w → Φ (dT t) σ) :
    vcSs S (p_law_triple.drop 5) (EnvT c w rows col lo hi near) σ (retS Φ) := by
  conv => whnf
  refine ⟨rfl, ?_⟩
  conv => whnf
  refine ⟨by decide, ?_⟩
  have q1 : 0 ≤ c % 8 := Int.emod_nonneg _ (by decide)
  have q2 : c % 8 < 8 := Int.emod_lt_of_pos _ (by decide)
  obtain ⟨v, hv⟩ := way_at (k := (c % 8).toNat) (by omega)
  refine ⟨_, rfl, small_ok (by simp), .inl ⟨q1, _, hv, ?_⟩⟩
  conv => whnf
  refine and_decide (fun _ => ?_) (fun _ => ?_)
  · conv => whnf
    refine ⟨rfl, ?_⟩
    exact retS_ret (h ⟨col, some lo, none⟩ hc)
  conv => whnf
  refine and_decide (fun _ => ?_) (fun _ => ?_)
  · conv => whnf
    refine ⟨rfl, ?_⟩
    exact retS_ret (h ⟨col, none, some lo⟩ hc)
  conv => whnf
  refine and_decide (fun _ => ?_) (fun _ => ?_)
  · conv => whnf
    refine ⟨rfl, ?_⟩
    exact retS_ret (h ⟨col, none, none⟩ hc)
  conv => whnf
  by_cases hv4 : v = 4
  · rw [decide_eq_true hv4]
    refine ⟨fun q => ?_, fun q => ?_⟩ <;> cases q
    conv => whnf
    refine ⟨by decide, ?_⟩
    conv => whnf
    refine ⟨by decide, ?_⟩
    conv => whnf
    by_cases hx : near / 27 % 3 > 0
    · rw [decide_eq_true hx]
      refine ⟨fun q => ?_, fun q => ?_⟩ <;> cases q
      conv => whnf
      refine ⟨fun q => ?_, fun q => ?_⟩ <;> cases q
      conv => whnf
      refine ⟨by decide, ?_⟩
      conv => whnf
      refine ⟨by decide, ?_⟩
      conv => whnf
      refine ⟨rfl, ?_⟩
      exact retS_ret (h ⟨col, some lo, some _⟩ hc)
    · rw [decide_eq_false hx]
      refine ⟨fun q => ?_, fun q => ?_⟩ <;> cases q
      conv => whnf
      refine ⟨fun q => ?_, fun q => ?_⟩ <;> cases q
      conv => whnf
      rw [decide_eq_true hv4]
      refine ⟨fun q => ?_, fun q => ?_⟩ <;> cases q
      conv => whnf
      refine ⟨rfl, ?_⟩
      exact retS_ret (h ⟨col, some lo, some _⟩ hc)
  · rw [decide_eq_false hv4]
    refine ⟨fun q => ?_, fun q => ?_⟩ <;> cases q
    conv => whnf
    refine ⟨fun q => ?_, fun q => ?_⟩ <;> cases q
    conv => whnf
    rw [decide_eq_false hv4]
    refine ⟨fun q => ?_, fun q => ?_⟩ <;> cases q
    conv => whnf
    refine ⟨rfl, ?_⟩
    exact retS_ret (h ⟨col, some lo, some _⟩ hc)

set_option maxHeartbeats 2000000 in
theorem triple_vc (S : Nat → Spec) (h16 : S 16 = S_value) (ds : List D) (σ : Store) (Φ : D → Store → Prop) (h : S_triple ds σ Φ) : ds.length = [0, 1, 2].length ∧ vcSs S p_law_triple (initE [0, 1, 2] ds 8) σ (retS Φ) := by
  obtain ⟨c, w, B, rows, rfl, hw1, hw, hb, hB, hrl, hrw, h⟩ := h
  refine ⟨rfl, ?_⟩
  conv => whnf
  refine ⟨by decide, ?_⟩
  conv => whnf
  refine ⟨by omega, ?_⟩
  have m1 : 0 ≤ c / 8 % (w : Int) := Int.emod_nonneg _ (by omega)
  have m2 : c / 8 % (w : Int) < w := Int.emod_lt_of_pos _ (by omega)
  obtain ⟨col, hcol⟩ : ∃ col : Nat, c / 8 % (w : Int) = col := ⟨(c / 8 % (w : Int)).toNat, by omega⟩
  rw [hcol] at m2 ⊢
  conv => whnf
  refine ⟨.inr (by decide), ?_⟩
  conv => whnf
  refine ⟨bits_pow hb hB (by decide), ?_⟩
  conv => whnf
  refine ⟨by decide, ?_⟩
  conv => whnf
  rw [h16]
  refine ⟨_, rfl, fun v1 => ?_⟩
  conv => whnf
  refine ⟨.inr (by decide), ?_⟩
  conv => whnf
  refine ⟨bits_pow hb hB (by decide), ?_⟩
  conv => whnf
  refine ⟨by decide, ?_⟩
  conv => whnf
  rw [h16]
  refine ⟨_, rfl, fun v2 => ?_⟩
  conv => whnf
  refine ⟨.inr (by decide), ?_⟩
  conv => whnf
  refine ⟨by decide, ?_⟩
  conv => whnf
  refine ⟨by decide, ?_⟩
  generalize c * 48271 % 90001 = near
  conv => whnf
  have fin : ∀ lo, vcSs S (p_law_triple.drop 5) (EnvT c w rows col lo v2 near) σ (retS Φ) := fun lo => triple_end S (by omega) h
  by_cases hx : near % 3 > 0
  · rw [decide_eq_true hx]
    refine ⟨fun q => ?_, fun q => ?_⟩ <;> cases q
    conv => whnf
    refine ⟨_, rfl, small_ok (by simp; omega), ?_⟩
    conv => whnf
    rw [List.length_map]
    by_cases hy : (rows.length : Int) > 0
    · rw [decide_eq_true hy]
      refine ⟨fun q => ?_, fun q => ?_⟩ <;> cases q
      conv => whnf
      refine ⟨fun q => ?_, fun q => ?_⟩ <;> cases q
      conv => whnf
      refine ⟨by decide, ?_⟩
      conv => whnf
      refine ⟨_, rfl, small_ok (by simp; omega), ?_⟩
      conv => whnf
      rw [List.length_map]
      refine ⟨by omega, ?_⟩
      have q1 : 0 ≤ near / 3 % (rows.length : Int) := Int.emod_nonneg _ (by omega)
      have q2 : near / 3 % (rows.length : Int) < rows.length := Int.emod_lt_of_pos _ (by omega)
      have q3 : (near / 3 % (rows.length : Int)).toNat < rows.length := by omega
      refine ⟨_, rfl, small_ok (by simp; omega), .inl ⟨q1, _, get_map dI q3, ?_⟩⟩
      have hlen := hrw _ (List.getElem_mem q3)
      refine ⟨_, rfl, small_ok (by simp; omega), .inl ⟨by omega, _, get_map_int (k := (col : Int).toNat) (by simp; omega), ?_⟩⟩
      conv => whnf
      refine ⟨by decide, ?_⟩
      conv => whnf
      refine ⟨by decide, ?_⟩
      exact fin _
    · rw [decide_eq_false hy]
      refine ⟨fun q => ?_, fun q => ?_⟩ <;> cases q
      conv => whnf
      refine ⟨fun q => ?_, fun q => ?_⟩ <;> cases q
      exact fin _
  · rw [decide_eq_false hx]
    refine ⟨fun q => ?_, fun q => ?_⟩ <;> cases q
    conv => whnf
    refine ⟨fun q => ?_, fun q => ?_⟩ <;> cases q
    exact fin _

theorem maxOf_snoc (l : List Int) (x : Int) : maxOf (l ++ [x]) = some (match maxOf l with | none => x | some m => maxStep m x) := by
  cases l with
  | nil => rfl
  | cons y r => simp [maxOf]
theorem minOf_snoc (l : List Int) (x : Int) : minOf (l ++ [x]) = some (match minOf l with | none => x | some m => minStep m x) := by
  cases l with
  | nil => rfl
  | cons y r => simp [minOf]
theorem lows_snoc (w : List Tr) (t : Tr) (c : Nat) : lowsF (w ++ [t]) c = lowsF w c ++ (if t.col = c then t.lo else none).toList := by
  unfold lowsF
  rw [List.filterMap_append]
  congr 1
theorem highs_snoc (w : List Tr) (t : Tr) (c : Nat) : highsF (w ++ [t]) c = highsF w c ++ (if t.col = c then t.hi else none).toList := by
  unfold highsF
  rw [List.filterMap_append]
  congr 1

noncomputable def S_ends : Spec := fun ds σ Φ => ∃ (wish : List Tr) (c : Nat), ds = [.list (wish.map dT), .int c] ∧ wish.length ≤ 1000 ∧ Φ (.tuple [dOpt (maxOf (lowsF wish c)), dOpt (minOf (highsF wish c))]) σ
noncomputable def ends_body : List PS := match p_law_ends with
  | [_, _, .loop _ _ _ b _, _] => b
  | _ => []
noncomputable abbrev EnvN (wish : List Tr) (c : Nat) (lo hi : Option Int) (o : Option D) : PEnv := [some (.list (wish.map dT)), some (.int c), some (dOpt lo), some (dOpt hi), o]
set_option maxHeartbeats 1000000 in
theorem ends_vc (S : Nat → Spec) (ds : List D) (σ : Store) (Φ : D → Store → Prop) (h : S_ends ds σ Φ) : ds.length = [0, 1].length ∧ vcSs S p_law_ends (initE [0, 1] ds 5) σ (retS Φ) := by
  obtain ⟨wish, c, rfl, hwl, h⟩ := h
  refine ⟨rfl, ?_⟩
  conv => whnf
  refine ⟨_, rfl, ?_⟩
  refine forS_inv (fun k ρ σ' => σ' = σ ∧ ∃ o, ρ = EnvN wish c (maxOf (lowsF (wish.take k) c)) (minOf (highsF (wish.take k) c)) o) (fun _ _ _ _ => trivial) ?_ ?_ ⟨rfl, none, rfl⟩
  · rintro k d ρ σ' K hd ⟨rfl, o, rfl⟩ hK
    have hkl : k < wish.length := by
      have := (List.getElem?_eq_some_iff.mp hd).1; simpa using this
    rw [get_map dT hkl] at hd
    cases hd
    have hK' := fun o => hK _ σ' ⟨rfl, o, rfl⟩
    rw [List.take_succ_eq_append_getElem hkl, lows_snoc, highs_snoc] at hK'
    clear hK
    generalize wish[k] = t at hK' ⊢
    generalize lowsF (wish.take k) c = L at hK' ⊢
    generalize highsF (wish.take k) c = H at hK' ⊢
    obtain ⟨tc, tl, th⟩ := t
    dsimp only at hK'
    have second : ∀ (Z : Res → Prop) lo, (∀ ρ σ, K ρ σ → Z (.next ρ σ)) → (∀ o, K (EnvN wish c lo (minOf (H ++ (if tc = c then th else none).toList)) o) σ') → vcSs S (ends_body.drop 1) (EnvN wish c lo (minOf H) (some (dT ⟨tc, tl, th⟩))) σ' Z := by
      intro Z lo hZ hK2
      conv => whnf
      refine ⟨_, rfl, small_ok (by simp), .inl ⟨by decide, _, rfl, ?_⟩⟩
      conv => whnf
      rw [nat_dec]
      by_cases hc : tc = c
      · rw [decide_eq_true hc]
        rw [if_pos hc] at hK2
        refine ⟨fun q => ?_, fun q => ?_⟩ <;> cases q
        conv => whnf
        refine ⟨_, rfl, small_ok (by simp), .inl ⟨by decide, _, rfl, ?_⟩⟩
        cases th with
        | none =>
          conv => whnf
          refine ⟨_, rfl, ?_⟩
          conv => whnf
          refine ⟨fun q => ?_, fun q => ?_⟩ <;> cases q
          conv => whnf
          refine ⟨fun q => ?_, fun q => ?_⟩ <;> cases q
          simp only [Option.toList_none, List.append_nil] at hK2
          exact hZ _ _ (hK2 _)
        | some v =>
          simp only [Option.toList_some] at hK2
          rw [minOf_snoc] at hK2
          conv => whnf
          refine ⟨_, rfl, ?_⟩
          conv => whnf
          refine ⟨fun q => ?_, fun q => ?_⟩ <;> cases q
          conv => whnf
          cases hm : minOf H with
          | none =>
            rw [hm] at hK2
            refine ⟨_, rfl, ?_⟩
            conv => whnf
            refine ⟨fun q => ?_, fun q => ?_⟩ <;> cases q
            conv => whnf
            refine ⟨fun q => ?_, fun q => ?_⟩ <;> cases q
            conv => whnf
            refine ⟨fun q => ?_, fun q => ?_⟩ <;> cases q
            conv => whnf
            refine ⟨_, rfl, small_ok (by simp), .inl ⟨by decide, _, rfl, ?_⟩⟩
            exact hZ _ _ (hK2 _)
          | some m =>
            rw [hm] at hK2
            refine ⟨_, rfl, ?_⟩
            conv => whnf
            refine ⟨fun q => ?_, fun q => ?_⟩ <;> cases q
            conv => whnf
            refine ⟨_, rfl, small_ok (by simp), .inl ⟨by decide, _, rfl, ?_⟩⟩
            conv => whnf
            dsimp only at hK2
            unfold minStep at hK2
            by_cases hlt : v < m
            · rw [decide_eq_true hlt]
              rw [if_pos hlt] at hK2
              refine ⟨fun q => ?_, fun q => ?_⟩ <;> cases q
              conv => whnf
              refine ⟨fun q => ?_, fun q => ?_⟩ <;> cases q
              conv => whnf
              refine ⟨fun q => ?_, fun q => ?_⟩ <;> cases q
              conv => whnf
              refine ⟨_, rfl, small_ok (by simp), .inl ⟨by decide, _, rfl, ?_⟩⟩
              exact hZ _ _ (hK2 _)
            · rw [decide_eq_false hlt]
              rw [if_neg hlt] at hK2
              refine ⟨fun q => ?_, fun q => ?_⟩ <;> cases q
              conv => whnf
              refine ⟨fun q => ?_, fun q => ?_⟩ <;> cases q
              conv => whnf
              refine ⟨fun q => ?_, fun q => ?_⟩ <;> cases q
              exact hZ _ _ (hK2 _)
      · rw [decide_eq_false hc]
        rw [if_neg hc] at hK2
        refine ⟨fun q => ?_, fun q => ?_⟩ <;> cases q
        conv => whnf
        refine ⟨fun q => ?_, fun q => ?_⟩ <;> cases q
        simp only [Option.toList_none, List.append_nil] at hK2
        exact hZ _ _ (hK2 _)
    conv => whnf
    refine ⟨_, rfl, small_ok (by simp), .inl ⟨by decide, _, rfl, ?_⟩⟩
    conv => whnf
    rw [nat_dec]
    by_cases hc : tc = c
    · rw [decide_eq_true hc]
      refine ⟨fun q => ?_, fun q => ?_⟩ <;> cases q
      conv => whnf
      refine ⟨_, rfl, small_ok (by simp), .inl ⟨by decide, _, rfl, ?_⟩⟩
      cases tl with
      | none =>
        conv => whnf
        refine ⟨_, rfl, ?_⟩
        conv => whnf
        refine ⟨fun q => ?_, fun q => ?_⟩ <;> cases q
        conv => whnf
        refine ⟨fun q => ?_, fun q => ?_⟩ <;> cases q
        simp only [hc, if_true, Option.toList_none, List.append_nil] at hK'
        refine second _ _ (fun _ _ h => h) ?_
        simpa only [hc, if_true] using hK'
      | some v =>
        simp only [hc, if_true, Option.toList_some] at hK'
        rw [maxOf_snoc] at hK'
        conv => whnf
        refine ⟨_, rfl, ?_⟩
        conv => whnf
        refine ⟨fun q => ?_, fun q => ?_⟩ <;> cases q
        conv => whnf
        cases hm : maxOf L with
        | none =>
          rw [hm] at hK'
          refine ⟨_, rfl, ?_⟩
          conv => whnf
          refine ⟨fun q => ?_, fun q => ?_⟩ <;> cases q
          conv => whnf
          refine ⟨fun q => ?_, fun q => ?_⟩ <;> cases q
          conv => whnf
          refine ⟨fun q => ?_, fun q => ?_⟩ <;> cases q
          conv => whnf
          refine ⟨_, rfl, small_ok (by simp), .inl ⟨by decide, _, rfl, ?_⟩⟩
          refine second _ _ (fun _ _ h => h) ?_
          simpa only [hc, if_true] using hK'
        | some m =>
          rw [hm] at hK'
          refine ⟨_, rfl, ?_⟩
          conv => whnf
          refine ⟨fun q => ?_, fun q => ?_⟩ <;> cases q
          conv => whnf
          refine ⟨_, rfl, small_ok (by simp), .inl ⟨by decide, _, rfl, ?_⟩⟩
          conv => whnf
          dsimp only at hK'
          unfold maxStep at hK'
          by_cases hlt : m < v
          · rw [decide_eq_true hlt]
            rw [if_pos hlt] at hK'
            refine ⟨fun q => ?_, fun q => ?_⟩ <;> cases q
            conv => whnf
            refine ⟨fun q => ?_, fun q => ?_⟩ <;> cases q
            conv => whnf
            refine ⟨fun q => ?_, fun q => ?_⟩ <;> cases q
            conv => whnf
            refine ⟨_, rfl, small_ok (by simp), .inl ⟨by decide, _, rfl, ?_⟩⟩
            refine second _ _ (fun _ _ h => h) ?_
            simpa only [hc, if_true] using hK'
          · rw [decide_eq_false hlt]
            rw [if_neg hlt] at hK'
            refine ⟨fun q => ?_, fun q => ?_⟩ <;> cases q
            conv => whnf
            refine ⟨fun q => ?_, fun q => ?_⟩ <;> cases q
            conv => whnf
            refine ⟨fun q => ?_, fun q => ?_⟩ <;> cases q
            refine second _ _ (fun _ _ h => h) ?_
            simpa only [hc, if_true] using hK'
    · rw [decide_eq_false hc]
      refine ⟨fun q => ?_, fun q => ?_⟩ <;> cases q
      conv => whnf
      refine ⟨fun q => ?_, fun q => ?_⟩ <;> cases q
      simp only [hc, if_false, Option.toList_none, List.append_nil] at hK'
      refine second _ _ (fun _ _ h => h) ?_
      simpa only [hc, if_false, Option.toList_none, List.append_nil] using hK'
  · rintro ρ σ' ⟨rfl, o, rfl⟩
    rw [List.length_map, List.take_length]
    conv => whnf
    refine ⟨rfl, ?_⟩
    exact retS_ret h
end Mine.L06

open PySem PyProof.Rows
set_option Elab.async false
set_option maxRecDepth 20000
namespace Mine.L06

noncomputable def loB (x : Int) : Option Int → Bool
  | none => true
  | some l => !decide (x < l)
noncomputable def hiB (x : Int) : Option Int → Bool
  | none => true
  | some h => decide (x ≤ h)
noncomputable def betF (x : Int) (lo hi : Option Int) : Bool := loB x lo && hiB x hi
noncomputable def S_between : Spec := fun ds σ Φ => ∃ (x : Int) (lo hi : Option Int), ds = [.int x, .tuple [dOpt lo, dOpt hi]] ∧ Φ (.bool (betF x lo hi)) σ
theorem between_vc (S : Nat → Spec) (ds : List D) (σ : Store) (Φ : D → Store → Prop) (h : S_between ds σ Φ) : ds.length = [0, 1].length ∧ vcSs S p_law_between (initE [0, 1] ds 2) σ (retS Φ) := by
  obtain ⟨x, lo, hi, rfl, h⟩ := h
  refine ⟨rfl, ?_⟩
  unfold betF at h
  have second : loB x lo = true → vcSs S (p_law_between.drop 1) [some (.int x), some (.tuple [dOpt lo, dOpt hi])] σ (retS Φ) := by
    intro e1
    rw [e1, Bool.true_and] at h
    conv => whnf
    refine ⟨_, rfl, small_ok (by simp), .inl ⟨by decide, _, rfl, ?_⟩⟩
    cases hi with
    | none =>
      conv => whnf
      refine ⟨_, rfl, ?_⟩
      conv => whnf
      refine ⟨fun q => ?_, fun q => ?_⟩ <;> cases q
      exact retS_ret h
    | some v =>
      conv => whnf
      refine ⟨_, rfl, ?_⟩
      conv => whnf
      refine ⟨fun q => ?_, fun q => ?_⟩ <;> cases q
      conv => whnf
      refine ⟨_, rfl, small_ok (by simp), .inl ⟨by decide, _, rfl, ?_⟩⟩
      exact retS_ret h
  conv => whnf
  refine ⟨_, rfl, small_ok (by simp), .inl ⟨by decide, _, rfl, ?_⟩⟩
  cases lo with
  | none =>
    conv => whnf
    refine ⟨_, rfl, ?_⟩
    conv => whnf
    refine ⟨fun q => ?_, fun q => ?_⟩ <;> cases q
    conv => whnf
    refine ⟨fun q => ?_, fun q => ?_⟩ <;> cases q
    exact second rfl
  | some l =>
    conv => whnf
    refine ⟨_, rfl, ?_⟩
    conv => whnf
    refine ⟨fun q => ?_, fun q => ?_⟩ <;> cases q
    conv => whnf
    refine ⟨_, rfl, small_ok (by simp), .inl ⟨by decide, _, rfl, ?_⟩⟩
    conv => whnf
    by_cases hlt : x < l
    · rw [decide_eq_true hlt]
      refine ⟨fun q => ?_, fun q => ?_⟩ <;> cases q
      conv => whnf
      refine ⟨fun q => ?_, fun q => ?_⟩ <;> cases q
      conv => whnf
      refine retS_ret ?_
      simp only [loB] at h
      rw [decide_eq_true hlt, Bool.not_true, Bool.false_and] at h
      exact h
    · rw [decide_eq_false hlt]
      refine ⟨fun q => ?_, fun q => ?_⟩ <;> cases q
      conv => whnf
      refine ⟨fun q => ?_, fun q => ?_⟩ <;> cases q
      exact second (by simp only [loB]; rw [decide_eq_false hlt]; rfl)

noncomputable def inF (wish : List Tr) (row : List Int) : List Nat → Bool
  | [] => true
  | c :: r => match maxOf (lowsF wish c) with
    | none => betF (row.getD c 0) none (minOf (highsF wish c))
    | some l => if minOf (highsF wish c) = some l then (if row.getD c 0 = l then inF wish row r else false) else betF (row.getD c 0) (some l) (minOf (highsF wish c))
theorem inF_cons (wish : List Tr) (row : List Int) (c : Nat) (r : List Nat) : inF wish row (c :: r) = (match maxOf (lowsF wish c) with
    | none => betF (row.getD c 0) none (minOf (highsF wish c))
    | some l => if minOf (highsF wish c) = some l then (if row.getD c 0 = l then inF wish row r else false) else betF (row.getD c 0) (some l) (minOf (highsF wish c))) := rfl

theorem getD_at {row : List Int} {c : Nat} (h : c < row.length) : (row.map D.int)[(c : Int).toNat]? = some (.int (row.getD c 0)) := by
  rw [get_map_int (k := (c : Int).toNat) (by simpa using h), List.getD_eq_getElem?_getD, List.getElem?_eq_getElem h]
  simp

noncomputable def S_instr : Spec := fun ds σ Φ => ∃ (row : List Int) (cols : List Nat) (wish : List Tr), ds = [dI row, dN cols, .list (wish.map dT)] ∧ row.length ≤ 1000 ∧ (∀ c ∈ cols, c < row.length) ∧ wish.length ≤ 1000 ∧ Φ (.bool (inF wish row cols)) σ
set_option maxHeartbeats 1000000 in
theorem instr_vc (S : Nat → Spec) (h19 : S 19 = S_ends) (h20 : S 20 = S_between) (ds : List D) (σ : Store) (Φ : D → Store → Prop) (h : S_instr ds σ Φ) : ds.length = [0, 1, 2].length ∧ vcSs S p_law_in_stretch (initE [0, 1, 2] ds 5) σ (retS Φ) := by
  obtain ⟨row, cols, wish, rfl, hrl, hc, hwl, h⟩ := h
  refine ⟨rfl, ?_⟩
  conv => whnf
  refine ⟨_, rfl, ?_⟩
  refine forS_inv (fun k ρ σ' => σ' = σ ∧ (∃ o3 o4, ρ = [some (dI row), some (dN cols), some (.list (wish.map dT)), o3, o4]) ∧ inF wish row cols = inF wish row (cols.drop k)) (fun _ _ _ _ => trivial) ?_ ?_ ⟨rfl, ⟨none, none, rfl⟩, rfl⟩
  · rintro k d ρ σ' K hd ⟨rfl, ⟨o3, o4, rfl⟩, hin⟩ hK
    have hkl : k < cols.length := by
      have := (List.getElem?_eq_some_iff.mp hd).1; simpa using this
    rw [get_map (fun (j : Nat) => D.int j) hkl] at hd
    cases hd
    have hcl := hc _ (List.getElem_mem hkl)
    rw [List.drop_eq_getElem_cons hkl, inF_cons] at hin
    conv => whnf
    rw [h19]
    refine ⟨wish, cols[k], rfl, hwl, ?_⟩
    generalize cols[k] = cc at hin hcl ⊢
    generalize maxOf (lowsF wish cc) = lo at hin ⊢
    generalize minOf (highsF wish cc) = hi at hin ⊢
    have bet : ∀ b, inF wish row cols = b → b = betF (row.getD cc 0) lo hi → S 20 [.int (row.getD cc 0), .tuple [dOpt lo, dOpt hi]] σ' (fun d σ'' => retS Φ (.ret d σ'')) := by
      intro b e1 e2
      rw [h20]
      refine ⟨_, lo, hi, rfl, retS_ret ?_⟩
      rw [← e2, ← e1]; exact h
    conv => whnf
    refine ⟨_, rfl, small_ok (by simp), .inl ⟨by decide, _, rfl, ?_⟩⟩
    cases lo with
    | none =>
      conv => whnf
      refine ⟨_, rfl, ?_⟩
      conv => whnf
      refine ⟨fun q => ?_, fun q => ?_⟩ <;> cases q
      conv => whnf
      refine ⟨fun q => ?_, fun q => ?_⟩ <;> cases q
      conv => whnf
      refine ⟨_, rfl, small_ok (by simp; omega), .inl ⟨by omega, _, getD_at hcl, ?_⟩⟩
      conv => whnf
      exact bet _ hin rfl
    | some l =>
      conv => whnf
      refine ⟨_, rfl, ?_⟩
      conv => whnf
      refine ⟨fun q => ?_, fun q => ?_⟩ <;> cases q
      conv => whnf
      refine ⟨_, rfl, small_ok (by simp), .inl ⟨by decide, _, rfl, ?_⟩⟩
      conv => whnf
      refine ⟨_, rfl, small_ok (by simp), .inl ⟨by decide, _, rfl, ?_⟩⟩
      cases hi with
      | none =>
        conv => whnf
        obtain ⟨x, y, t, e1, e2, s1, s2, e3, ht'⟩ := pl2 (a := .int l) (b := .none) σ' (dOpt_pl 20 (some l)) (dOpt_pl 20 none)
        refine ⟨x, y, e1, e2, s1, s2, ?_⟩
        rw [e3]
        have : t = false := by
          cases t with
          | false => rfl
          | true => exact absurd (ht'.mp rfl) (by intro q; cases q)
        subst this
        conv => whnf
        refine ⟨fun q => ?_, fun q => ?_⟩ <;> cases q
        conv => whnf
        refine ⟨fun q => ?_, fun q => ?_⟩ <;> cases q
        conv => whnf
        refine ⟨_, rfl, small_ok (by simp; omega), .inl ⟨by omega, _, getD_at hcl, ?_⟩⟩
        conv => whnf
        exact bet _ hin rfl
      | some v =>
        dsimp only at hin
        conv => whnf
        by_cases hlv : l = v
        · rw [decide_eq_true hlv]
          refine ⟨fun q => ?_, fun q => ?_⟩ <;> cases q
          conv => whnf
          refine ⟨fun q => ?_, fun q => ?_⟩ <;> cases q
          conv => whnf
          refine ⟨_, rfl, small_ok (by simp; omega), .inl ⟨by omega, _, getD_at hcl, ?_⟩⟩
          conv => whnf
          refine ⟨_, rfl, small_ok (by simp), .inl ⟨by decide, _, rfl, ?_⟩⟩
          conv => whnf
          rw [if_pos (by rw [hlv])] at hin
          refine and_not_decide (fun hne => ?_) (fun he => ?_)
          · conv => whnf
            refine retS_ret ?_
            rw [if_neg hne] at hin
            rw [hin] at h
            exact h
          · rw [if_pos he] at hin
            exact hK _ _ ⟨rfl, ⟨_, _, rfl⟩, hin⟩
        · rw [decide_eq_false hlv]
          refine ⟨fun q => ?_, fun q => ?_⟩ <;> cases q
          conv => whnf
          refine ⟨fun q => ?_, fun q => ?_⟩ <;> cases q
          conv => whnf
          refine ⟨_, rfl, small_ok (by simp; omega), .inl ⟨by omega, _, getD_at hcl, ?_⟩⟩
          conv => whnf
          rw [if_neg (by intro q; cases q; exact hlv rfl)] at hin
          exact bet _ hin rfl
  · rintro ρ σ' ⟨rfl, ⟨o3, o4, rfl⟩, hin⟩
    rw [List.length_map, List.drop_length] at hin
    conv => whnf
    refine retS_ret ?_
    rw [hin] at h
    exact h

noncomputable def entR (cols : List Nat) (rows : List (List Int)) (n : Nat) : List Int := entF cols (rows.getD n []) n
noncomputable def S_inord : Spec := fun ds σ Φ => ∃ (fD : D) (ns : List Nat) (rows : List (List Int)) (cols : List Nat), ds = [fD, .list (rows.map dI), dN cols] ∧ asL σ fD = some (ns.map fun (k : Nat) => D.int k) ∧ rows.length ≤ 1000 ∧ cols.length ≤ 100 ∧ (∀ r ∈ rows, r.length ≤ 1000 ∧ ∀ c ∈ cols, c < r.length) ∧ (∀ n ∈ ns, n < rows.length) ∧
  (ns.map (entR cols rows)).Pairwise (fun a b => lessF a b = true) ∧ Φ (.bool true) σ
theorem keepS_same {σ : Store} {d : D} {ds : List D} (h : asL σ d = some ds) : keepS d ds σ := by
  cases d <;> simp only [keepS]
  rename_i a
  simp only [asL] at h
  cases e : σ a with
  | none => rw [e] at h; cases h
  | some m => rw [e] at h; cases m <;> simp_all
set_option maxHeartbeats 1000000 in
theorem inord_vc (S : Nat → Spec) (h21 : S 21 = S_whole) (h22 : S 22 = S_less) (ds : List D) (σ : Store) (Φ : D → Store → Prop) (h : S_inord ds σ Φ) : ds.length = [0, 1, 2].length ∧ vcSs S p_law_in_order (initE [0, 1, 2] ds 7) σ (retS Φ) := by
  obtain ⟨fD, ns, rows, cols, rfl, hf, hrl, hcl, hrw, hns, hord, h⟩ := h
  refine ⟨rfl, ?_⟩
  conv => whnf
  refine ⟨_, hf, ?_⟩
  refine forS_inv (fun k ρ σ' => σ' = σ ∧ ∃ last o4 o5, ρ = [some fD, some (.list (rows.map dI)), some (dN cols), some last, o4, o5, none] ∧ (if h : 0 < k ∧ k ≤ ns.length then last = dI (entR cols rows (ns[k - 1]'(by omega))) else last = .none)) (fun _ _ _ ⟨e, _⟩ => by rw [e]; exact keepS_same hf) ?_ ?_ ⟨rfl, _, _, _, rfl, by simp⟩
  · rintro k d ρ σ' K hd ⟨rfl, last, o4, o5, rfl, hlast⟩ hK
    have hkl : k < ns.length := by
      have := (List.getElem?_eq_some_iff.mp hd).1; simpa using this
    rw [get_map (fun (j : Nat) => D.int j) hkl] at hd
    cases hd
    have hn := hns _ (List.getElem_mem hkl)
    have hrow := hrw _ (List.getElem_mem hn)
    conv => whnf
    rw [h21]
    refine ⟨_, rfl, ?_⟩
    conv => whnf
    refine ⟨fun q => ?_, fun q => ?_⟩ <;> cases q
    conv => whnf
    rw [decide_eq_true (by omega)]
    refine ⟨fun q => ?_, fun q => ?_⟩ <;> cases q
    conv => whnf
    refine ⟨_, rfl, small_ok (by simp; omega), ?_⟩
    conv => whnf
    rw [List.length_map, decide_eq_true (by omega)]
    refine ⟨fun q => ?_, fun q => ?_⟩ <;> cases q
    conv => whnf
    refine ⟨fun q => ?_, fun q => ?_⟩ <;> cases q
    conv => whnf
    refine ⟨_, rfl, ?_⟩
    refine ⟨small_ok (by simp; omega), ?_⟩
    refine compS_mapG (fun (j : Nat) => D.int j) (fun c => some (.int ((rows[ns[k]]).getD c 0))) trivial _ _ ?_ ?_
    · intro c hcm K2 hK2
      conv => whnf
      refine ⟨fun q => ?_, fun q => ?_⟩ <;> cases q
      conv => whnf
      refine ⟨_, rfl, small_ok (by simp; omega), .inl ⟨by omega, _, get_map dI (k := (ns[k] : Int).toNat) (by simpa using hn), ?_⟩⟩
      conv => whnf
      have hc2 := hrow.2 c hcm
      have e1 : rows[(ns[k] : Int).toNat]'(by simpa using hn) = rows[ns[k]] := by simp
      rw [e1]
      refine ⟨_, rfl, small_ok (by simp; omega), .inl ⟨by omega, _, getD_at hc2, hK2⟩⟩
    rw [List.nil_append]
    conv => whnf
    refine ⟨rfl, ?_⟩
    conv => whnf
    have e1 : cols.filterMap (fun c => some (D.int ((rows[ns[k]]).getD c 0))) = (cols.map fun c => (rows[ns[k]]).getD c 0).map D.int := by
      rw [List.map_map, List.filterMap_eq_map']; rfl
    rw [e1]
    refine ⟨small_ok (by simp; omega), ?_⟩
    have e2 : (cols.map fun c => (rows[ns[k]]).getD c 0).map D.int ++ [D.int (ns[k] : Int)] = (entR cols rows ns[k]).map D.int := by
      unfold entR entF; rw [List.getD_eq_getElem?_getD (l := rows), List.getElem?_eq_getElem hn]; simp
    rw [e2]
    have hK' := hK [some fD, some (.list (rows.map dI)), some (dN cols), some (dI (entR cols rows ns[k])), some (.int ns[k]), some (dI (entR cols rows ns[k])), none] σ' ⟨rfl, _, _, _, rfl, by rw [dif_pos ⟨by omega, by omega⟩]; simp⟩
    by_cases hk0 : k = 0
    · rw [dif_neg (by omega)] at hlast
      subst hlast
      conv => whnf
      refine ⟨_, rfl, ?_⟩
      conv => whnf
      refine ⟨fun q => ?_, fun q => ?_⟩ <;> cases q
      conv => whnf
      refine ⟨fun q => ?_, fun q => ?_⟩ <;> cases q
      conv => whnf
      exact hK'
    · rw [dif_pos ⟨by omega, by omega⟩] at hlast
      subst hlast
      conv => whnf
      refine ⟨_, rfl, ?_⟩
      conv => whnf
      refine ⟨fun q => ?_, fun q => ?_⟩ <;> cases q
      conv => whnf
      rw [h22]
      have hl : ∀ n, (entR cols rows n).length = cols.length + 1 := fun n => by unfold entR; rw [ent_len]
      refine ⟨_, _, _, _, rfl, rfl, rfl, by rw [hl]; omega, by rw [hl]; omega, ?_⟩
      have hlt : lessF (entR cols rows (ns[k - 1]'(by omega))) (entR cols rows ns[k]) = true := by
        have := (List.pairwise_iff_getElem.mp hord) (k - 1) k (by simp; omega) (by simpa using hkl) (by omega)
        simpa using this
      rw [hlt]
      conv => whnf
      refine ⟨fun q => ?_, fun q => ?_⟩ <;> cases q
      conv => whnf
      refine ⟨fun q => ?_, fun q => ?_⟩ <;> cases q
      conv => whnf
      exact hK'
  · rintro ρ σ' ⟨rfl, last, o4, o5, rfl, hlast⟩
    conv => whnf
    exact retS_ret h
end Mine.L06

open PySem PyProof.Rows
set_option Elab.async false
set_option maxRecDepth 20000
namespace Mine.L06

theorem lessF_nil (e : List Int) : lessF e [] = false := by cases e <;> rfl
theorem lessF_total : ∀ a b : List Int, a ≠ b → lessF a b = true ∨ lessF b a = true
  | [], [], h => absurd rfl h
  | [], _ :: _, _ => .inl rfl
  | _ :: _, [], _ => .inr rfl
  | x :: a, y :: b, h => by
    simp only [lessF]
    by_cases e : x = y
    · subst e
      simp only [if_true]
      exact lessF_total a b fun q => h (by rw [q])
    · rw [if_neg e, if_neg (Ne.symm e)]
      simp only [decide_eq_true_eq]
      omega

theorem put_ok {E : List (List Int)} {x : List Int} (h : SortE E) (hx : ∀ e ∈ E, e ≠ x) : SortE (putE E x) ∧ (putE E x).Perm (x :: E) := by
  constructor
  · unfold putE SortE
    rw [List.pairwise_append, List.pairwise_cons]
    have htake : ∀ a ∈ E.take (cntF E x), lessF a x = true := by
      intro a ha
      obtain ⟨i, hi, rfl⟩ := List.getElem_of_mem ha
      simp only [List.length_take] at hi
      rw [List.getElem_take, h.prefix x i (by omega)]
      simp; omega
    have hdrop : ∀ a ∈ E.drop (cntF E x), lessF x a = true := by
      intro a ha
      have hm := List.mem_of_mem_drop ha
      obtain ⟨i, hi, rfl⟩ := List.getElem_of_mem ha
      simp only [List.length_drop] at hi
      have hn := h.prefix x (cntF E x + i) (by omega)
      rw [decide_eq_false (by omega)] at hn
      rw [List.getElem_drop] at hm ⊢
      rcases lessF_total _ _ (hx _ hm) with q | q
      · rw [q] at hn; cases hn
      · exact q
    refine ⟨h.sublist (List.take_sublist _ _), ⟨hdrop, h.sublist (List.drop_sublist _ _)⟩, fun a ha b hb => ?_⟩
    rcases List.mem_cons.mp hb with rfl | hb
    · exact htake a ha
    · exact lessF_trans _ _ _ (htake a ha) (hdrop b hb)
  · unfold putE
    refine List.perm_middle.trans ?_
    rw [List.take_append_drop]

theorem slice_filter {α : Type} (p q : α → Bool) : ∀ (l : List α) (s t : Nat), (∀ i (hi : i < l.length), p l[i] = decide (i < s)) → (∀ i (hi : i < l.length), q l[i] = decide (i < t)) → (l.drop s).take (t - s) = l.filter fun e => !p e && q e
  | [], s, t, _, _ => by simp
  | x :: r, s, t, hp, hq => by
    have hp0 := hp 0 (by simp)
    have hq0 := hq 0 (by simp)
    simp only [List.getElem_cons_zero] at hp0 hq0
    have hp' : ∀ i (hi : i < r.length), p r[i] = decide (i < s - 1) ∨ s = 0 := fun i hi => by
      by_cases hs : s = 0
      · exact .inr hs
      · left
        have := hp (i + 1) (by simpa using hi)
        rw [List.getElem_cons_succ] at this
        rw [this]
        by_cases hh : i + 1 < s
        · rw [decide_eq_true hh, decide_eq_true (by omega)]
        · rw [decide_eq_false hh, decide_eq_false (by omega)]
    have hs : ∀ i (hi : i < r.length), p r[i] = decide (i < s - 1) := fun i hi => by
      have := hp (i + 1) (by simpa using hi)
      rw [List.getElem_cons_succ] at this
      rw [this]
      by_cases hh : i + 1 < s
      · rw [decide_eq_true hh, decide_eq_true (by omega)]
      · rw [decide_eq_false hh, decide_eq_false (by omega)]
    have ht : ∀ i (hi : i < r.length), q r[i] = decide (i < t - 1) := fun i hi => by
      have := hq (i + 1) (by simpa using hi)
      rw [List.getElem_cons_succ] at this
      rw [this]
      by_cases hh : i + 1 < t
      · rw [decide_eq_true hh, decide_eq_true (by omega)]
      · rw [decide_eq_false hh, decide_eq_false (by omega)]
    have ih := slice_filter p q r (s - 1) (t - 1) hs ht
    rw [List.filter_cons, hp0, hq0, ← ih]
    cases s with
    | zero =>
      cases t with
      | zero => simp
      | succ t => simp
    | succ s =>
      rw [decide_eq_true (by omega : 0 < s + 1)]
      cases t with
      | zero => simp
      | succ t => simp

noncomputable def lessB (e : List Int) : Option (List Int) → Bool
  | none => true
  | some B => lessF e B
noncomputable def predF (wish : List Tr) (cols : List Nat) (e : List Int) : Bool := !lessF e (loKey (boundsF wish cols).1 (loO (boundsF wish cols).2)) && lessB e (hiKey (boundsF wish cols).1 (hiO (boundsF wish cols).2))

theorem hiKey_cons (v : Int) (P : List Int) (hi : Option Int) : hiKey (v :: P) hi = (match hiKey P hi with | none => some [v + 1] | some B => some (v :: B)) := rfl
theorem lessB_cons (x v : Int) (e P : List Int) (hi : Option Int) : lessB (x :: e) (hiKey (v :: P) hi) = if x = v then lessB e (hiKey P hi) else decide (x < v) := by
  rw [hiKey_cons]
  cases hk : hiKey P hi with
  | none =>
    simp only [lessB, lessF, lessF_nil]
    by_cases h : x = v
    · rw [if_pos h, if_neg (by omega), decide_eq_true (by omega)]
    · rw [if_neg h]
      by_cases h2 : x = v + 1
      · rw [if_pos h2, decide_eq_false (by omega)]
      · rw [if_neg h2]
        by_cases h3 : x < v
        · rw [decide_eq_true h3, decide_eq_true (by omega)]
        · rw [decide_eq_false h3, decide_eq_false (by omega)]
  | some B => simp only [lessB, lessF]

theorem noC {wish : List Tr} {c : Nat} (h : ¬ hasC wish c = true) : lowsF wish c = [] ∧ highsF wish c = [] := by
  have key : ∀ t ∈ wish, ¬ t.col = c := fun t ht q => h (List.any_eq_true.mpr ⟨t, ht, by simpa using q⟩)
  constructor
  · unfold lowsF
    rw [List.filterMap_eq_nil_iff]
    intro t ht
    rw [if_neg (key t ht)]
  · unfold highsF
    rw [List.filterMap_eq_nil_iff]
    intro t ht
    rw [if_neg (key t ht)]

theorem one_lo (x l : Int) (e : List Int) : (!lessF (x :: e) [l]) = loB x (some l) := by
  simp only [lessF, lessF_nil, loB]
  by_cases h : x = l
  · rw [if_pos h, decide_eq_false (by omega)]
  · rw [if_neg h]
theorem one_hi (x h : Int) (e : List Int) : lessF (x :: e) [h + 1] = hiB x (some h) := by
  simp only [lessF, lessF_nil, hiB]
  by_cases q : x = h + 1
  · rw [if_pos q, decide_eq_false (by omega)]
  · rw [if_neg q]
    by_cases q2 : x ≤ h
    · rw [decide_eq_true q2, decide_eq_true (by omega)]
    · rw [decide_eq_false q2, decide_eq_false (by omega)]

theorem boundsF_cons' (wish : List Tr) (c : Nat) (r : List Nat) : boundsF wish (c :: r) = if hasC wish c then (match maxOf (lowsF wish c) with
      | none => ([], some ⟨c, none, minOf (highsF wish c)⟩)
      | some l => if minOf (highsF wish c) = some l then (l :: (boundsF wish r).1, (boundsF wish r).2) else ([], some ⟨c, some l, minOf (highsF wish c)⟩)) else ([], none) := by
  rw [boundsF_cons]
  unfold entT
  split
  · cases maxOf (lowsF wish c) <;> rfl
  · rfl
theorem pred_in (wish : List Tr) (row : List Int) (n : Int) : ∀ cols : List Nat, predF wish cols (entF cols row n) = inF wish row cols
  | [] => by
    simp only [predF, boundsF_nil, loKey, loO, hiO, hiKey, inF, lessB]
    rfl
  | c :: r => by
    have ih := pred_in wish row n r
    have he : entF (c :: r) row n = row.getD c 0 :: entF r row n := rfl
    rw [he, inF_cons]
    generalize row.getD c 0 = x
    unfold predF at ih ⊢
    rw [boundsF_cons']
    by_cases hh : hasC wish c = true
    · rw [if_pos hh]
      cases hlo : maxOf (lowsF wish c) with
      | none =>
        simp only [loKey, loO, hiO, Option.bind_some, Option.toList_none, List.append_nil, lessF_nil, Bool.not_false, Bool.true_and, betF, loB]
        cases hhi : minOf (highsF wish c) with
        | none => simp only [hiKey, lessB, hiB]
        | some v => simp only [hiKey, lessB]; exact one_hi x v _
      | some l =>
        simp only
        by_cases heq : minOf (highsF wish c) = some l
        · rw [if_pos heq, if_pos heq]
          simp only [loKey, List.cons_append, lessB_cons, lessF]
          by_cases hx : x = l
          · rw [if_pos hx, if_pos hx, if_pos hx]
            exact ih
          · rw [if_neg hx, if_neg hx, if_neg hx]
            cases decide (x < l) <;> rfl
        · rw [if_neg heq, if_neg heq]
          simp only [loKey, loO, hiO, Option.bind_some, Option.toList_some, List.nil_append, betF]
          rw [one_lo]
          congr 1
          cases hhi : minOf (highsF wish c) with
          | none => simp only [hiKey, lessB, hiB]
          | some v => simp only [hiKey, lessB]; exact one_hi x v _
    · rw [if_neg hh]
      obtain ⟨e1, e2⟩ := noC hh
      rw [e1, e2]
      simp only [loKey, loO, hiO, Option.bind_none, Option.toList_none, List.append_nil, lessF_nil, maxOf, minOf, hiKey, lessB, betF, loB, hiB]
      rfl

theorem stretch_filter {E : List (List Int)} (hs : SortE E) (wish : List Tr) (cols : List Nat) : (E.drop (loC wish cols E)).take (hiC wish cols E - loC wish cols E) = E.filter (predF wish cols) := by
  unfold predF
  refine slice_filter _ _ E _ _ (fun i hi => hs.prefix _ i hi) fun i hi => ?_
  unfold hiC
  cases hiKey (boundsF wish cols).1 (hiO (boundsF wish cols).2) with
  | none => exact (decide_eq_true (show i < cntO E none from hi)).symm
  | some B => exact hs.prefix _ i hi

/-- the numbers that are due -/
noncomputable def dueF (wish : List Tr) (cols : List Nat) (rows : List (List Int)) : List Nat := (List.range rows.length).filter fun n => inF wish (rows.getD n []) cols
noncomputable def EntInv (cols : List Nat) (rows : List (List Int)) (E : List (List Int)) : Prop := E.Perm ((List.range rows.length).map (entR cols rows))

theorem ent_last (cols : List Nat) (rows : List (List Int)) (n : Nat) : (entR cols rows n).getLast? = some (n : Int) := by
  unfold entR entF; simp
noncomputable def numF (e : List Int) : Nat := (e.getLast?.getD 0).toNat
theorem numF_ent (cols : List Nat) (rows : List (List Int)) (n : Nat) : numF (entR cols rows n) = n := by
  unfold numF; rw [ent_last]; simp

theorem found_ok {cols : List Nat} {rows : List (List Int)} {E : List (List Int)} (hs : SortE E) (hi : EntInv cols rows E) (wish : List Tr) :
    ∃ ns : List Nat, resE E (loC wish cols E) (hiC wish cols E) = ns.map (fun (k : Nat) => (k : Int)) ∧ ns.Perm (dueF wish cols rows) ∧ (ns.map (entR cols rows)).Pairwise (fun a b => lessF a b = true) ∧ ∀ n ∈ ns, n < rows.length := by
  have hE : ∀ e ∈ E, ∃ n, n < rows.length ∧ e = entR cols rows n := fun e he => by
    obtain ⟨n, hn, rfl⟩ := List.mem_map.mp (hi.mem_iff.mp he)
    exact ⟨n, List.mem_range.mp hn, rfl⟩
  unfold resE
  rw [stretch_filter hs]
  have hback : ((E.filter (predF wish cols)).map numF).map (entR cols rows) = E.filter (predF wish cols) := by
    rw [List.map_map]
    conv => rhs; rw [← List.map_id (E.filter (predF wish cols))]
    refine List.map_congr_left fun e he => ?_
    obtain ⟨n, hn, rfl⟩ := hE e (List.mem_filter.mp he).1
    simp only [Function.comp, numF_ent, id]
  refine ⟨(E.filter (predF wish cols)).map numF, ?_, ?_, ?_, ?_⟩
  · rw [List.map_map]
    refine List.map_congr_left fun e he => ?_
    obtain ⟨n, hn, rfl⟩ := hE e (List.mem_filter.mp he).1
    simp only [Function.comp, numF_ent, ent_last, Option.getD_some]
  · have h1 := ((hi.filter (predF wish cols)).map numF)
    refine h1.trans (List.Perm.of_eq ?_)
    rw [List.filter_map, List.map_map]
    have e1 : (List.range rows.length).filter (predF wish cols ∘ entR cols rows) = dueF wish cols rows := by
      unfold dueF
      refine List.filter_congr fun n hn => ?_
      exact pred_in wish _ _ cols
    rw [e1]
    conv => rhs; rw [← List.map_id (dueF wish cols rows)]
    exact List.map_congr_left fun n _ => numF_ent cols rows n
  · rw [hback]; exact hs.filter _
  · intro n hn
    obtain ⟨e, he, rfl⟩ := List.mem_map.mp hn
    obtain ⟨m, hm, rfl⟩ := hE e (List.mem_filter.mp he).1
    rw [numF_ent]; exact hm

theorem due_sorted (wish : List Tr) (cols : List Nat) (rows : List (List Int)) : ((dueF wish cols rows).map fun (k : Nat) => (k : Int)).Pairwise (· ≤ ·) := by
  unfold dueF
  rw [List.pairwise_map]
  exact ((List.pairwise_lt_range).filter _).imp fun h => by omega
end Mine.L06

open PySem PyProof.Rows
set_option Elab.async false
set_option maxRecDepth 20000
namespace Mine.L06

theorem pl_dT (n : Nat) (t : Tr) : pl (n + 1) (dT t) := by
  intro x hx
  simp only [List.mem_cons, List.not_mem_nil, or_false] at hx
  rcases hx with rfl | rfl | rfl
  · cases n <;> simp [pl]
  · exact dOpt_pl _ _
  · exact dOpt_pl _ _
theorem pl_wish (n : Nat) (w : List Tr) : pl (n + 2) (.list (w.map dT)) := pl_list dT w fun t _ => pl_dT n t

/-- what is known of an order and its rows -/
structure Kn (σ : Store) (a : Addr) (cols : List Nat) (E : List (List Int)) (dx e : Addr) (rows : List (List Int)) (wish : List Tr) : Prop where
  at_ : KeptAt σ a cols E dx e
  sz : SzE cols E
  inv : EntInv cols rows E
  rn : rows.length ≤ 300
  rw_ : ∀ r ∈ rows, r.length ≤ 6 ∧ ∀ c ∈ cols, c < r.length
  c6 : ∀ c ∈ cols, c < 6
  wl : wish.length ≤ 100
  w6 : ∀ t ∈ wish, t.col < 6

noncomputable def S_good : Spec := fun ds σ Φ => ∃ a cols E dx e rows wish, ds = [.obj a, .list (List.map dI rows), dN cols, .list (List.map dT wish)] ∧ Kn σ a cols E dx e rows wish ∧ Φ (.bool true) σ

noncomputable abbrev EnvG (a : Addr) (rows : List (List Int)) (cols : List Nat) (wish : List Tr) (r : Addr) (cv : Bool) (o7 : Option D) : PEnv := [some (.obj a), some (.list (List.map dI rows)), some (dN cols), some (.list (List.map dT wish)), some (.list (List.map dT wish)), some (.obj r), some (.bool cv), o7, none, none]

theorem Kn.fresh {σ : Store} {a : Addr} {cols : List Nat} {E : List (List Int)} {dx e : Addr} {rows : List (List Int)} {wish : List Tr} (k : Kn σ a cols E dx e rows wish) {σ' : Store} (h : ∀ x m, σ x = some m → σ' x = some m) : Kn σ' a cols E dx e rows wish :=
  ⟨⟨h _ _ k.at_.obj, h _ _ k.at_.ents⟩, k.sz, k.inv, k.rn, k.rw_, k.c6, k.wl, k.w6⟩
theorem ext_set {σ : Store} {r : Addr} {m : MObj} (hr : σ r = none) : ∀ x n, σ x = some n → (σ.set r m) x = some n := fun x n hx => by
  rw [set_ne (fun q => by rw [q, hr] at hx; cases hx)]; exact hx

/-- the end: the list is changed, the stretch is asked again -/
theorem good_end (S : Nat → Spec) (h23 : S 23 = S_stretch) {a : Addr} {cols : List Nat} {E : List (List Int)} {dx e r : Addr} {rows : List (List Int)} {wish : List Tr} {ns : List Nat} {cv : Bool} {σ : Store} {Φ : D → Store → Prop}
    (k : Kn σ a cols E dx e rows wish) (hr : freshIn σ r) (e1 : resE E (loC wish cols E) (hiC wish cols E) = ns.map (fun (k : Nat) => (k : Int))) (hp : ns.Perm (dueF wish cols rows)) (h : Φ (.bool true) σ) :
    vcSs S (p_law_good.drop 7) (EnvG a rows cols wish r cv (some (.list ((dueF wish cols rows).map fun (k : Nat) => D.int k)))) (σ.set r (.mlist (ns.map fun (k : Nat) => D.int k))) (retS Φ) := by
  have hlen : (dueF wish cols rows).length ≤ 300 := by
    unfold dueF; exact Nat.le_trans (List.length_filter_le _ _) (by simpa using k.rn)
  have hnl : ns.length = (dueF wish cols rows).length := hp.length_eq
  have hwl := k.wl
  conv => whnf
  refine ⟨⟨_, set_at _ _ _⟩, ?_⟩
  conv => whnf
  refine ⟨_, set_at _ _ _, small_ok (by simp; omega), ?_⟩
  rw [set_set]
  have k2 : Kn (σ.set r (.mlist ((ns.map fun (k : Nat) => D.int k) ++ [D.int (-1)]))) a cols E dx e rows wish := k.fresh (ext_set hr.1)
  conv => whnf
  refine ⟨⟨a, dx, _, rfl, k2.at_.obj, no_f _ _ (by decide) (by decide)⟩, ?_⟩
  conv => whnf
  rw [h23]
  refine ⟨a, cols, E, dx, e, wish, rfl, k2.at_, k.sz, k.c6, by omega, k.w6, fun r2 hr2 => ?_⟩
  obtain ⟨hf2, hne⟩ := fresh_set hr.1 hr2
  rw [e1]
  conv => whnf
  refine ⟨ns.map (fun (k : Nat) => (k : Int)), (dueF wish cols rows).map (fun (k : Nat) => (k : Int)), asL_ent (set_at _ _ _), rfl, small_ok (by simp; omega), (hp.map _).symm, due_sorted _ _ _, ?_⟩
  have e2 : ((dueF wish cols rows).map fun (k : Nat) => (k : Int)).map D.int = (dueF wish cols rows).map fun (k : Nat) => D.int k := by rw [List.map_map]; rfl
  rw [e2]
  conv => whnf
  obtain ⟨x, q1, q2, q3⟩ := pl1 (a := dI ((dueF wish cols rows).map fun (k : Nat) => (k : Int))) ((σ.set r (.mlist ((ns.map fun (k : Nat) => D.int k) ++ [D.int (-1)]))).set r2 (.mlist ((ns.map fun (k : Nat) => (k : Int)).map D.int))) (pl_ints _)
  have e3 : dI ((dueF wish cols rows).map fun (k : Nat) => (k : Int)) = .list ((dueF wish cols rows).map fun (k : Nat) => D.int k) := by rw [← e2]
  rw [e3] at q1
  refine ⟨x, x, q1, q1, q2, q2, ?_⟩
  rw [q3]
  refine ⟨fun q => ?_, fun q => ?_⟩ <;> cases q
  conv => whnf
  refine ⟨_, asL_ent (by rw [set_ne hne.symm, set_at]), small_ok (by simp; omega), ?_⟩
  conv => whnf
  refine ⟨_, rfl, small_ok (by simp; omega), ?_⟩
  refine ⟨_, σ, ⟨fun y m hy => ?_, .inl rfl⟩, ?_⟩
  · have n1 : y ≠ r2 := fun q => by rw [q, hf2.1] at hy; cases hy
    have n2 : y ≠ r := fun q => by rw [q, hr.1] at hy; cases hy
    rw [set_ne n1, set_ne n2]; exact hy
  · have : decide (((((ns.map fun (k : Nat) => D.int k) ++ [D.int (-1)]).length : Nat) : Int) = (((dueF wish cols rows).map fun (k : Nat) => D.int k).length : Int) + 1) = true := by
      simp; omega
    rw [this]; exact h

set_option maxHeartbeats 4000000 in
theorem good_vc (S : Nat → Spec) (h23 : S 23 = S_stretch) (h24 : S 24 = S_covers) (h25 : S 25 = S_instr) (h26 : S 26 = S_inord) (ds : List D) (σ : Store) (Φ : D → Store → Prop) (h : S_good ds σ Φ) : ds.length = [0, 1, 2, 3].length ∧ vcSs S p_law_good (initE [0, 1, 2, 3] ds 10) σ (retS Φ) := by
  obtain ⟨a, cols, E, dx, e, rows, wish, rfl, k, h⟩ := h
  have hwl := k.wl
  have hrn := k.rn
  refine ⟨rfl, ?_⟩
  conv => whnf
  refine ⟨_, rfl, small_ok (by simp; omega), ?_⟩
  conv => whnf
  refine ⟨⟨a, dx, _, rfl, k.at_.obj, no_f _ _ (by decide) (by decide)⟩, ?_⟩
  conv => whnf
  rw [h23]
  refine ⟨a, cols, E, dx, e, wish, rfl, k.at_, k.sz, k.c6, by omega, k.w6, fun r hr => ?_⟩
  obtain ⟨ns, e1, hp, hord, hns⟩ := found_ok k.sz.s k.inv wish
  have e2 : (ns.map fun (k : Nat) => (k : Int)).map D.int = ns.map fun (k : Nat) => D.int k := by rw [List.map_map]; rfl
  have fin := good_end S h23 (cv := wish.all fun t => cols.contains t.col) k hr e1 hp h
  rw [e1, e2]
  have hrs : (σ.set r (.mlist (ns.map fun (k : Nat) => D.int k))) r = some (.mlist (ns.map fun (k : Nat) => D.int k)) := set_at _ _ _
  have k2 : Kn (σ.set r (.mlist (ns.map fun (k : Nat) => D.int k))) a cols E dx e rows wish := k.fresh (ext_set hr.1)
  generalize σ.set r (.mlist (ns.map fun (k : Nat) => D.int k)) = σ1 at hrs k2 fin ⊢
  have hnl : ns.length ≤ 300 := by
    rw [hp.length_eq]; unfold dueF; exact Nat.le_trans (List.length_filter_le _ _) (by simpa using k.rn)
  conv => whnf
  refine ⟨⟨a, dx, _, rfl, k2.at_.obj, no_f _ _ (by decide) (by decide)⟩, ?_⟩
  conv => whnf
  rw [h24]
  refine ⟨a, cols, E, dx, e, wish, rfl, k2.at_, by omega, ?_⟩
  conv => whnf
  refine ⟨true, by simp [tyS, hrs], ?_⟩
  conv => whnf
  refine ⟨fun q => ?_, fun q => ?_⟩ <;> cases q
  conv => whnf
  refine ⟨_, rfl, ?_⟩
  conv => whnf
  refine ⟨fun q => ?_, fun q => ?_⟩ <;> cases q
  conv => whnf
  obtain ⟨x, q1, q2, q3⟩ := pl1 (a := .list (List.map dT wish)) σ1 (pl_wish 18 wish)
  refine ⟨x, x, q1, q1, q2, q2, ?_⟩
  rw [q3]
  conv => whnf
  refine ⟨fun q => ?_, fun q => ?_⟩ <;> cases q
  conv => whnf
  refine ⟨fun q => ?_, fun q => ?_⟩ <;> cases q
  conv => whnf
  refine ⟨_, rfl, ?_⟩
  refine ⟨small_ok (by simp; omega), ?_⟩
  refine compS_mapG dT (fun t => if cols.contains t.col then none else some (.int 1)) trivial _ _ ?_ ?_
  · intro t ht K hK
    conv => whnf
    refine ⟨_, rfl, small_ok (by simp), .inl ⟨by decide, _, rfl, ?_⟩⟩
    conv => whnf
    refine .inl ⟨cols.map fun (k : Nat) => (k : Int), by simp [asL], ?_⟩
    rw [contains_nat]
    cases hc : cols.contains t.col with
    | true =>
      rw [hc] at hK
      conv => whnf
      refine ⟨fun q => ?_, fun q => ?_⟩ <;> cases q
      conv => whnf
      refine ⟨fun q => ?_, fun q => ?_⟩ <;> cases q
      exact hK
    | false =>
      rw [hc] at hK
      conv => whnf
      refine ⟨fun q => ?_, fun q => ?_⟩ <;> cases q
      conv => whnf
      refine ⟨fun q => ?_, fun q => ?_⟩ <;> cases q
      conv => whnf
      exact hK
  rw [List.nil_append]
  conv => whnf
  refine ⟨_, rfl, small_ok (Nat.le_trans (List.length_filterMap_le _ _) (by omega)), ?_⟩
  conv => whnf
  have ecov : decide ((((wish.filterMap fun t => if cols.contains t.col then none else some (D.int 1)).length : Nat) : Int) = 0) = wish.all fun t => cols.contains t.col := by
    cases hall : wish.all fun t => cols.contains t.col with
    | true =>
      have : wish.filterMap (fun t => if cols.contains t.col then none else some (D.int 1)) = [] := by
        rw [List.filterMap_eq_nil_iff]
        intro t ht
        rw [if_pos ((List.all_eq_true.mp hall) t ht)]
      rw [this]; rfl
    | false =>
      rw [decide_eq_false_iff_not]
      intro q
      have hz : wish.filterMap (fun t => if cols.contains t.col then none else some (D.int 1)) = [] := List.eq_nil_of_length_eq_zero (by omega)
      rw [List.filterMap_eq_nil_iff] at hz
      have : wish.all (fun t => cols.contains t.col) = true := List.all_eq_true.mpr fun t ht => by
        cases hc : cols.contains t.col with
        | true => rfl
        | false => have := hz t ht; rw [hc] at this; simp at this
      rw [this] at hall; cases hall
  rw [ecov]
  have eb : ∀ b : Bool, (!(b == b)) = false := fun b => by cases b <;> rfl
  rw [eb]
  refine ⟨fun q => ?_, fun q => ?_⟩ <;> cases q
  conv => whnf
  refine ⟨_, rfl, small_ok (by simp; omega), ?_⟩
  conv => whnf
  rw [List.length_map]
  refine ⟨by unfold small; omega, by unfold small; omega, ?_⟩
  refine ⟨by rw [rangeD_length]; exact small_ok (by omega), ?_⟩
  have e0 : rangeD (rows.length : Int) = (List.range rows.length).map fun (i : Nat) => D.int i := by unfold rangeD; rw [Int.toNat_natCast]
  rw [e0]
  refine compS_mapG (fun (i : Nat) => D.int i) (fun n => if inF wish (rows.getD n []) cols then some (.int n) else none) trivial _ _ ?_ ?_
  · intro n hn K hK
    have hn' := List.mem_range.mp hn
    conv => whnf
    refine ⟨_, rfl, small_ok (by simp; omega), .inl ⟨by omega, _, get_map dI (k := (n : Int).toNat) (by simpa using hn'), ?_⟩⟩
    conv => whnf
    have e3 : rows[(n : Int).toNat]'(by simpa using hn') = rows.getD n [] := by
      rw [List.getD_eq_getElem?_getD, List.getElem?_eq_getElem hn']; simp
    rw [e3, h25]
    have hrow := k.rw_ (rows.getD n []) (by rw [List.getD_eq_getElem?_getD, List.getElem?_eq_getElem hn']; exact List.getElem_mem _)
    refine ⟨rows.getD n [], cols, wish, rfl, by omega, hrow.2, by omega, ?_⟩
    cases hc : inF wish (rows.getD n []) cols with
    | true =>
      rw [hc] at hK
      conv => whnf
      refine ⟨fun q => ?_, fun q => ?_⟩ <;> cases q
      conv => whnf
      refine ⟨fun q => ?_, fun q => ?_⟩ <;> cases q
      conv => whnf
      exact hK
    | false =>
      rw [hc] at hK
      conv => whnf
      refine ⟨fun q => ?_, fun q => ?_⟩ <;> cases q
      conv => whnf
      refine ⟨fun q => ?_, fun q => ?_⟩ <;> cases q
      exact hK
  rw [List.nil_append]
  have edue : (List.range rows.length).filterMap (fun n => if inF wish (rows.getD n []) cols then some (D.int (n : Int)) else none) = (dueF wish cols rows).map fun (k : Nat) => D.int k := by
    unfold dueF
    rw [← List.filterMap_eq_map', List.filterMap_filter]
  rw [edue]
  conv => whnf
  rw [h26]
  refine ⟨.obj r, ns, rows, cols, rfl, asL_ent hrs, by omega, by have := k.sz.c; omega, fun x hx => ⟨by have := (k.rw_ x hx).1; omega, (k.rw_ x hx).2⟩, hns, hord, ?_⟩
  conv => whnf
  refine ⟨fun q => ?_, fun q => ?_⟩ <;> cases q
  conv => whnf
  refine ⟨ns.map (fun (k : Nat) => (k : Int)), (dueF wish cols rows).map (fun (k : Nat) => (k : Int)), by rw [e2]; exact asL_ent hrs, rfl, small_ok (by simp; omega), (hp.map _).symm, due_sorted _ _ _, ?_⟩
  have e4 : ((dueF wish cols rows).map fun (k : Nat) => (k : Int)).map D.int = (dueF wish cols rows).map fun (k : Nat) => D.int k := by rw [List.map_map]; rfl
  rw [e4]
  conv => whnf
  obtain ⟨x, q1, q2, q3⟩ := pl1 (a := dI ((dueF wish cols rows).map fun (k : Nat) => (k : Int))) σ1 (pl_ints _)
  have e3 : dI ((dueF wish cols rows).map fun (k : Nat) => (k : Int)) = .list ((dueF wish cols rows).map fun (k : Nat) => D.int k) := by rw [← e4]
  rw [e3] at q1
  refine ⟨x, x, q1, q1, q2, q2, ?_⟩
  rw [q3]
  conv => whnf
  refine ⟨fun q => ?_, fun q => ?_⟩ <;> cases q
  conv => whnf
  refine ⟨fun q => ?_, fun q => ?_⟩ <;> cases q
  exact fin
end Mine.L06

open PySem PyProof.Rows
set_option Elab.async false
set_option maxRecDepth 20000
namespace Mine.L06

noncomputable def S_law : Spec := fun ds σ Φ => ∃ sc B, ds = [dI sc] ∧ sc.length ≤ 1000 ∧ (∀ c ∈ sc, Bt B c) ∧ B ≤ 1900000 ∧ Φ (.bool true) σ
noncomputable def S06 : Nat → Spec
  | 3 => S_less
  | 7 => S_entry
  | 8 => S_below
  | 9 => S_merged
  | 10 => S_tripof
  | 11 => S_bounds
  | 12 => S_behind
  | 16 => S_value
  | 19 => S_ends
  | 20 => S_between
  | 21 => S_whole
  | 22 => S_less
  | 23 => S_stretch
  | 24 => S_covers
  | 25 => S_instr
  | 26 => S_inord
  | 27 => S_at
  | 28 => S_order
  | 29 => S_row
  | 30 => S_triple
  | 31 => S_init
  | 33 => S_good
  | 34 => S_put
  | _ => fun _ _ _ => False

theorem bt_of_bits {c : Int} {B : Nat} (h : Builtin.Int.intBits c ≤ B) : Bt B c := by
  unfold Bt
  unfold Builtin.Int.intBits at h
  by_cases hc : c = 0
  · subst hc; exact Nat.pow_pos (by decide)
  · rw [if_neg (by simpa using hc)] at h
    exact Nat.lt_of_lt_of_le Nat.lt_log2_self (Nat.pow_le_pow_right (by decide) h)
theorem bt_getD {sc : List Int} {B : Nat} (h : ∀ c ∈ sc, Bt B c) (i : Nat) : Bt B (sc.getD i 0) := by
  rw [List.getD_eq_getElem?_getD]
  cases e : sc[i]? with
  | none => unfold Bt; simp; exact Nat.pow_pos (by decide)
  | some c => exact h c (List.mem_of_getElem? e)

noncomputable abbrev EnvL (sc : List Int) (w : Nat) (cols : List Nat) (N : Nat) (o4 o5 o6 o7 o8 : Option D) : PEnv := [some (dI sc), some (.int w), some (dN cols), some (.int N), o4, o5, o6, o7, o8, none, none]

theorem entR_take {cols : List Nat} {rows : List (List Int)} {k n : Nat} (h : n < k) : entR cols (rows.take k) n = entR cols rows n := by
  unfold entR
  rw [List.getD_eq_getElem?_getD, List.getD_eq_getElem?_getD, List.getElem?_take_of_lt h]
theorem inv_take {cols : List Nat} {rows : List (List Int)} {E : List (List Int)} {k : Nat} (hk : k ≤ rows.length) (h : E.Perm ((List.range k).map (entR cols rows))) : EntInv cols (rows.take k) E := by
  unfold EntInv
  rw [List.length_take, Nat.min_eq_left hk]
  refine h.trans (List.Perm.of_eq (List.map_congr_left fun n hn => (entR_take (List.mem_range.mp hn)).symm))

/-- what stands at a turn of the loop -/
structure Lp (σ σ' : Store) (a : Addr) (cols : List Nat) (dx e : Addr) (rows : List (List Int)) (k : Nat) (E : List (List Int)) : Prop where
  at_ : KeptAt σ' a cols E dx e
  sz : SzE cols E
  perm : E.Perm ((List.range k).map (entR cols rows))
  oth : ∀ x, x ≠ a → x ≠ e → σ' x = σ x

theorem law_loop {sc : List Int} {w : Nat} {cols : List Nat} {N : Nat} {rows : List (List Int)} {wish : List Tr} {o5 : Option D} {a dx e : Addr} {σ σ1 : Store} {Φ : D → Store → Prop} (hN : rows.length = N) (hN2 : N ≤ 199) (hrw : ∀ r ∈ rows, r.length = w) (hw : w ≤ 6) (hcl : cols.length ≤ 6) (hc : ∀ c ∈ cols, c < w)
    (hwl : wish.length ≤ 20) (hw6 : ∀ t ∈ wish, t.col < w) (hsa : σ a = none) (hse : σ e = none) (hae : a ≠ e) (hk0 : KeptAt σ1 a cols [] dx e) (hoth : ∀ x, x ≠ a → x ≠ e → σ1 x = σ x) (h : Φ (.bool true) σ) :
    vcSs S06 (p_law.drop 10) (EnvL sc w cols N (some (.list (rows.map dI))) o5 (some (.list (wish.map dT))) (some (.obj a)) none) σ1 (retS Φ) := by
  have kn : ∀ (σ' : Store) (k : Nat) (E : List (List Int)), k ≤ N → Lp σ σ' a cols dx e rows k E → Kn σ' a cols E dx e (rows.take k) wish := fun σ' k E hk L =>
    ⟨L.at_, L.sz, inv_take (by omega) L.perm, by simp; omega, fun r hr => by
      have := hrw r (List.mem_of_mem_take hr)
      exact ⟨by omega, fun c hcm => by have := hc c hcm; omega⟩, fun c hcm => by have := hc c hcm; omega, by omega, fun t ht => by have := hw6 t ht; omega⟩
  conv => whnf
  refine ⟨by unfold small; omega, by unfold small; omega, ?_⟩
  refine forS_inv (fun k ρ σ' => ∃ E, Lp σ σ' a cols dx e rows k E ∧ ∃ o8, ρ = EnvL sc w cols N (some (.list (rows.map dI))) o5 (some (.list (wish.map dT))) (some (.obj a)) o8) (fun _ _ _ _ => trivial) ?_ ?_ ⟨[], ⟨hk0, ⟨by simp, by omega, by simp, List.Pairwise.nil⟩, by simp, hoth⟩, none, rfl⟩
  · rintro k d ρ σ' K hd ⟨E, L, o8, rfl⟩ hK
    obtain ⟨rfl, hk⟩ := rangeD_get hd
    have hkN : k < N := by omega
    have hkr : k < rows.length := by omega
    -- the put
    have put : ∀ (Z : Res → Prop) (o8 : Option D), (∀ ρ σ, K ρ σ → Z (.next ρ σ)) → o8 = some (.int k) → vcSs S06 ((match p_law.drop 10 with | (.loop _ _ _ b _) :: _ => b | _ => []).drop 1) (EnvL sc w cols N (some (.list (rows.map dI))) o5 (some (.list (wish.map dT))) (some (.obj a)) o8) σ' Z := by
      intro Z o8 hZ ho8
      subst ho8
      conv => whnf
      refine ⟨⟨a, dx, _, rfl, L.at_.obj, no_f _ _ (by decide) (by decide)⟩, ?_⟩
      conv => whnf
      refine ⟨_, rfl, small_ok (by simp; omega), .inl ⟨by omega, _, get_map dI (k := (k : Int).toNat) (by simpa using hkr), ?_⟩⟩
      have e1 : rows[(k : Int).toNat]'(by simpa using hkr) = rows[k] := by simp
      rw [e1]
      have hlen := hrw _ (List.getElem_mem hkr)
      have e2 : entF cols rows[k] (k : Int) = entR cols rows k := by
        unfold entR; rw [List.getD_eq_getElem?_getD, List.getElem?_eq_getElem hkr]; rfl
      have hne : ∀ x ∈ E, x ≠ entR cols rows k := fun x hx q => by
        obtain ⟨n, hn, rfl⟩ := List.mem_map.mp (L.perm.mem_iff.mp hx)
        have := congrArg numF q
        rw [numF_ent, numF_ent] at this
        have := List.mem_range.mp hn
        omega
      obtain ⟨p1, p2⟩ := put_ok L.sz.s hne
      refine ⟨a, cols, E, dx, e, _, rows[k], k, rfl, L.at_, L.sz, rfl, by omega, fun c hcm => by have := hc c hcm; omega, fun σ'' h1 h2 => ?_⟩
      rw [e2] at h1
      have hEl : E.length = k := by rw [L.perm.length_eq]; simp
      refine hZ _ _ (hK _ _ ⟨putE E (entR cols rows k), ⟨⟨by rw [h2 a hae]; exact L.at_.obj, h1⟩, ⟨?_, by omega, ?_, p1⟩, ?_, fun x hx1 hx2 => by rw [h2 x hx2]; exact L.oth x hx1 hx2⟩, _, rfl⟩)
      · rw [p2.length_eq]; simp; omega
      · intro r hr
        rcases List.mem_cons.mp (p2.mem_iff.mp hr) with rfl | hr
        · unfold entR; rw [ent_len]
        · exact L.sz.r r hr
      · rw [List.range_succ, List.map_append]
        refine p2.trans ?_
        exact (List.Perm.cons _ L.perm).trans (List.perm_append_comm (l₁ := [entR cols rows k]))
    conv => whnf
    refine ⟨by decide, ?_⟩
    conv => whnf
    by_cases hm : (k : Int) = (N : Int) / 2
    · rw [decide_eq_true hm]
      refine ⟨fun q => ?_, fun q => ?_⟩ <;> cases q
      conv => whnf
      refine ⟨_, none, some (k : Int), rfl, rfl, rfl, rfl, small_ok (by simp; omega), ?_⟩
      have esl : sliceD (rows.map dI) none (some (k : Int)) = (rows.take k).map dI := by
        unfold sliceD clipAt
        simp only [Option.elim, List.drop_zero, Nat.sub_zero, List.length_map]
        rw [← List.map_take]
        congr 2
        split <;> omega
      rw [esl]
      conv => whnf
      refine ⟨a, cols, E, dx, e, rows.take k, wish, rfl, kn σ' k E (by omega) L, ?_⟩
      conv => whnf
      refine ⟨fun q => ?_, fun q => ?_⟩ <;> cases q
      conv => whnf
      refine ⟨fun q => ?_, fun q => ?_⟩ <;> cases q
      exact put _ _ (fun _ _ h => h) rfl
    · rw [decide_eq_false hm]
      refine ⟨fun q => ?_, fun q => ?_⟩ <;> cases q
      conv => whnf
      refine ⟨fun q => ?_, fun q => ?_⟩ <;> cases q
      exact put _ _ (fun _ _ h => h) rfl
  · rintro ρ σ' ⟨E, L, o8, rfl⟩
    rw [rangeD_length] at L
    have ek : (N : Int).toNat = N := by omega
    rw [ek] at L
    have kk := kn σ' N E (Nat.le_refl _) L
    rw [List.take_of_length_le (by omega)] at kk
    conv => whnf
    refine ⟨a, cols, E, dx, e, rows, wish, rfl, kk, ?_⟩
    refine ⟨_, σ, ⟨fun x m hx => ?_, .inl rfl⟩, h⟩
    have n1 : x ≠ a := fun q => by rw [q, hsa] at hx; cases hx
    have n2 : x ≠ e := fun q => by rw [q, hse] at hx; cases hx
    rw [L.oth x n1 n2]; exact hx

theorem law_new {sc : List Int} {w : Nat} {cols : List Nat} {N : Nat} {rows : List (List Int)} {wish : List Tr} {o5 : Option D} {σ : Store} {Φ : D → Store → Prop} (hN : rows.length = N) (hN2 : N ≤ 199) (hrw : ∀ r ∈ rows, r.length = w) (hw : w ≤ 6) (hcl : cols.length ≤ 6) (hc : ∀ c ∈ cols, c < w)
    (hwl : wish.length ≤ 20) (hw6 : ∀ t ∈ wish, t.col < w) (h : Φ (.bool true) σ) :
    vcSs S06 (p_law.drop 9) (EnvL sc w cols N (some (.list (rows.map dI))) o5 (some (.list (wish.map dT))) none none) σ (retS Φ) := by
  conv => whnf
  intro a dx hfa hfd hne
  refine ⟨a, dx, dN cols, rfl, set_at _ _ _, fun e σ' he h1 h2 h3 => ⟨rfl, ?_⟩⟩
  have hae : a ≠ e := fun q => by rw [← q, set_at] at he; cases he
  have hse : σ e = none := by rwa [set_ne hae.symm] at he
  exact law_loop hN hN2 hrw hw hcl hc hwl hw6 hfa.1 hse hae ⟨h1, h2⟩ (fun x q1 q2 => by rw [h3 x q1 q2, set_ne q1]) h

set_option maxHeartbeats 1000000 in
theorem law_wish {sc : List Int} {w B : Nat} {cols : List Nat} {N : Nat} {rows : List (List Int)} {σ : Store} {Φ : D → Store → Prop} (hsc : sc.length ≤ 1000) (hB : ∀ c ∈ sc, Bt B c) (hB2 : B ≤ 1900000) (hN : rows.length = N) (hN2 : N ≤ 199) (hrw : ∀ r ∈ rows, r.length = w) (hw1 : 1 ≤ w) (hw : w ≤ 6) (hcl : cols.length ≤ 6) (hc : ∀ c ∈ cols, c < w)
    (h : Φ (.bool true) σ) : vcSs S06 (p_law.drop 6) (EnvL sc w cols N (some (.list (rows.map dI))) none none none none) σ (retS Φ) := by
  have rest : ∀ M : Nat, M ≤ 20 → vcSs S06 (p_law.drop 8) (EnvL sc w cols N (some (.list (rows.map dI))) (some (.int M)) none none none) σ (retS Φ) := by
    intro M hM
    conv => whnf
    refine ⟨by unfold small; omega, by unfold small; omega, ?_⟩
    refine ⟨by rw [rangeD_length]; exact small_ok (by omega), ?_⟩
    have e0 : rangeD (M : Int) = (List.range M).map fun (i : Nat) => D.int i := by unfold rangeD; rw [Int.toNat_natCast]
    rw [e0]
    refine compS_dem (fun (i : Nat) => D.int i) (fun r => ∃ t : Tr, r = dT t ∧ t.col < w) trivial _ _ ?_ ?_
    · intro i hi K hK
      have hi' := List.mem_range.mp hi
      conv => whnf
      refine ⟨fun q => ?_, fun q => ?_⟩ <;> cases q
      conv => whnf
      refine ⟨by decide, ?_⟩
      conv => whnf
      refine ⟨sc, _, rfl, hsc, by omega, ?_⟩
      conv => whnf
      refine ⟨by decide, ?_⟩
      conv => whnf
      refine ⟨.inl (by decide), ?_⟩
      conv => whnf
      refine ⟨_, w, B + 9, rows, rfl, hw1, hw, bits_add (bt_getD hB _) (by omega), by omega, by omega, hrw, fun t ht => hK _ ⟨t, rfl, ht⟩⟩
    · intro out hl hR
      obtain ⟨wish, rfl, hw6⟩ := dem_list dT (fun t => t.col < w) out hR
      rw [List.nil_append]
      exact law_new hN hN2 hrw hw hcl hc (by simp at hl; omega) hw6 h
  conv => whnf
  refine ⟨sc, 2, rfl, hsc, by decide, ?_⟩
  conv => whnf
  refine ⟨by decide, ?_⟩
  conv => whnf
  refine ⟨sc, 2, rfl, hsc, by decide, ?_⟩
  conv => whnf
  refine ⟨by decide, ?_⟩
  conv => whnf
  refine ⟨by decide, ?_⟩
  conv => whnf
  refine and_decide (fun _ => ?_) (fun _ => ?_)
  · exact rest 20 (by decide)
  · have q1 : 0 ≤ sc.getD (2 : Int).toNat 0 % 5 := Int.emod_nonneg _ (by decide)
    have q2 : sc.getD (2 : Int).toNat 0 % 5 < 5 := Int.emod_lt_of_pos _ (by decide)
    have := rest (sc.getD (2 : Int).toNat 0 % 5).toNat (by omega)
    rw [Int.toNat_of_nonneg q1] at this
    exact this

set_option maxHeartbeats 1000000 in
theorem law_rows {sc : List Int} {w B : Nat} {cols : List Nat} {N : Nat} {σ : Store} {Φ : D → Store → Prop} (hsc : sc.length ≤ 1000) (hB : ∀ c ∈ sc, Bt B c) (hB2 : B ≤ 1900000) (hN2 : N ≤ 199) (hw1 : 1 ≤ w) (hw : w ≤ 6) (hcl : cols.length ≤ 6) (hc : ∀ c ∈ cols, c < w)
    (h : Φ (.bool true) σ) : vcSs S06 (p_law.drop 5) (EnvL sc w cols N none none none none none) σ (retS Φ) := by
  conv => whnf
  refine ⟨by unfold small; omega, by unfold small; omega, ?_⟩
  refine ⟨by rw [rangeD_length]; exact small_ok (by omega), ?_⟩
  have e0 : rangeD (N : Int) = (List.range N).map fun (i : Nat) => D.int i := by unfold rangeD; rw [Int.toNat_natCast]
  rw [e0]
  refine compS_dem (fun (i : Nat) => D.int i) (fun r => ∃ row : List Int, r = dI row ∧ row.length = w) trivial _ _ ?_ ?_
  · intro i hi K hK
    have hi' := List.mem_range.mp hi
    conv => whnf
    refine ⟨fun q => ?_, fun q => ?_⟩ <;> cases q
    conv => whnf
    refine ⟨by decide, ?_⟩
    conv => whnf
    refine ⟨sc, _, rfl, hsc, by omega, ?_⟩
    conv => whnf
    refine ⟨by decide, ?_⟩
    conv => whnf
    refine ⟨.inl (by decide), ?_⟩
    conv => whnf
    refine ⟨_, w, B + 9, rfl, hw, bits_add (bt_getD hB _) (by omega), by omega, fun row hr => hK _ ⟨row, rfl, hr⟩⟩
  · intro out hl hR
    obtain ⟨rows, rfl, hrw⟩ := dem_list dI (fun r => r.length = w) out hR
    rw [List.nil_append]
    exact law_wish hsc hB hB2 (by simpa using hl) hN2 hrw hw1 hw hcl hc h

set_option maxHeartbeats 2000000 in
theorem law_vc (ds : List D) (σ : Store) (Φ : D → Store → Prop) (h : S_law ds σ Φ) : ds.length = [0].length ∧ vcSs S06 p_law (initE [0] ds 11) σ (retS Φ) := by
  obtain ⟨sc, B, rfl, hsc, hB, hB2, h⟩ := h
  refine ⟨rfl, ?_⟩
  conv => whnf
  refine ⟨sc, 0, rfl, hsc, by decide, ?_⟩
  conv => whnf
  refine ⟨by decide, ?_⟩
  have q1 : 0 ≤ sc.getD (0 : Int).toNat 0 % 6 := Int.emod_nonneg _ (by decide)
  have q2 : sc.getD (0 : Int).toNat 0 % 6 < 6 := Int.emod_lt_of_pos _ (by decide)
  obtain ⟨w, hw⟩ : ∃ w : Nat, 1 + sc.getD (0 : Int).toNat 0 % 6 = (w : Int) := ⟨(1 + sc.getD (0 : Int).toNat 0 % 6).toNat, by omega⟩
  conv => whnf
  refine ⟨sc, 1, rfl, hsc, by decide, ?_⟩
  conv => whnf
  rw [hw]
  refine ⟨_, w, rfl, by omega, by omega, fun cols hne hcl hc => ?_⟩
  have rest : ∀ N : Nat, N ≤ 199 → vcSs S06 (p_law.drop 5) (EnvL sc w cols N none none none none none) σ (retS Φ) := fun N hN => law_rows hsc hB hB2 hN (by omega) (by omega) hcl hc h
  have small_n : ∀ (x : Int) (m : Nat) (base : Nat), 0 < m → base + m ≤ 200 → vcSs S06 (p_law.drop 5) [some (dI sc), some (.int w), some (dN cols), some (.int (base + x % m)), none, none, none, none, none, none, none] σ (retS Φ) := fun x m base hm hb => by
    have r1 : 0 ≤ x % (m : Int) := Int.emod_nonneg _ (by omega)
    have r2 : x % (m : Int) < m := Int.emod_lt_of_pos _ (by omega)
    have := rest (base + (x % (m : Int)).toNat) (by omega)
    have e : ((base + (x % (m : Int)).toNat : Nat) : Int) = base + x % m := by omega
    rw [← e]
    exact this
  conv => whnf
  refine ⟨sc, 0, rfl, hsc, by decide, ?_⟩
  conv => whnf
  refine ⟨by decide, ?_⟩
  conv => whnf
  refine ⟨by decide, ?_⟩
  conv => whnf
  refine ⟨sc, 0, rfl, hsc, by decide, ?_⟩
  conv => whnf
  refine ⟨by decide, ?_⟩
  conv => whnf
  refine ⟨by decide, ?_⟩
  conv => whnf
  have third : ∀ s : Int, (∃ n : Nat, n ≤ 199 ∧ s = n) → vcSs S06 (p_law.drop 4) [some (dI sc), some (.int w), some (dN cols), some (.int s), none, none, none, none, none, none, none] σ (retS Φ) := by
    rintro s ⟨n, hn, rfl⟩
    conv => whnf
    refine ⟨sc, 0, rfl, hsc, by decide, ?_⟩
    conv => whnf
    refine ⟨by decide, ?_⟩
    conv => whnf
    refine ⟨by decide, ?_⟩
    conv => whnf
    refine and_decide (fun _ => ?_) (fun _ => ?_)
    · conv => whnf
      refine ⟨sc, 0, rfl, hsc, by decide, ?_⟩
      conv => whnf
      refine ⟨by decide, ?_⟩
      conv => whnf
      refine ⟨by decide, ?_⟩
      exact small_n (sc.getD (0 : Int).toNat 0 / 768) 80 120 (by decide) (by decide)
    · exact rest n hn
  refine and_decide (fun _ => ?_) (fun _ => ?_)
  · conv => whnf
    refine ⟨sc, 0, rfl, hsc, by decide, ?_⟩
    conv => whnf
    refine ⟨by decide, ?_⟩
    conv => whnf
    refine ⟨by decide, ?_⟩
    refine third _ ⟨(sc.getD (0 : Int).toNat 0 / 192 % 40).toNat, ?_, ?_⟩
    · have r2 : sc.getD (0 : Int).toNat 0 / 192 % 40 < 40 := Int.emod_lt_of_pos _ (by decide)
      omega
    · have r1 : 0 ≤ sc.getD (0 : Int).toNat 0 / 192 % 40 := Int.emod_nonneg _ (by decide)
      omega
  · refine third _ ⟨(sc.getD (0 : Int).toNat 0 / 6 % 8).toNat, ?_, ?_⟩
    · have r2 : sc.getD (0 : Int).toNat 0 / 6 % 8 < 8 := Int.emod_lt_of_pos _ (by decide)
      omega
    · have r1 : 0 ≤ sc.getD (0 : Int).toNat 0 / 6 % 8 := Int.emod_nonneg _ (by decide)
      omega
end Mine.L06

open PySem PySem.W PySem.Calls PyProof.Rows
set_option Elab.async false
namespace Mine.L06
set_option maxRecDepth 100000
set_option maxHeartbeats 8000000
set_option linter.unusedVariables false
noncomputable def o2 : Params → Obj := fun P => Obj.mk Value.none none (Data.dict #[]) #[]
noncomputable def o3 : Params → Obj := fun P => Obj.mk (Value.type "dict") none (Data.dict #[DictEntry.mk (PyData.keyHash P (Str.ofString "__name__")) (Value.str (Str.ofString "__name__") 165) (Value.str (Str.ofString "law_uf040016_06") 331), DictEntry.mk (PyData.keyHash P (Str.ofString "__doc__")) (Value.str (Str.ofString "__doc__") 166) Value.none, DictEntry.mk (PyData.keyHash P (Str.ofString "__package__")) (Value.str (Str.ofString "__package__") 167) Value.none, DictEntry.mk (PyData.keyHash P (Str.ofString "__loader__")) (Value.str (Str.ofString "__loader__") 168) (Value.builtin "__main__.__loader__#opaque"), DictEntry.mk (PyData.keyHash P (Str.ofString "__spec__")) (Value.str (Str.ofString "__spec__") 169) Value.none, DictEntry.mk (PyData.keyHash P (Str.ofString "__annotations__")) (Value.str (Str.ofString "__annotations__") 170) (Value.ref 6), DictEntry.mk (PyData.keyHash P (Str.ofString "__builtins__")) (Value.str (Str.ofString "__builtins__") 171) (Value.ref 4), DictEntry.mk (PyData.keyHash P (Str.ofString "__file__")) (Value.str (Str.ofString "__file__") 173) (Value.str (Str.ofString "/claim/cut.py") 172), DictEntry.mk (PyData.keyHash P (Str.ofString "__cached__")) (Value.str (Str.ofString "__cached__") 174) Value.none, DictEntry.mk (PyData.keyHash P (Str.ofString "_wall")) (Value.str (Str.ofString "_wall") 193) (Value.ref 21), DictEntry.mk (PyData.keyHash P (Str.ofString "less")) (Value.str (Str.ofString "less") 204) (Value.ref 28), DictEntry.mk (PyData.keyHash P (Str.ofString "below")) (Value.str (Str.ofString "below") 215) (Value.ref 35), DictEntry.mk (PyData.keyHash P (Str.ofString "merged")) (Value.str (Str.ofString "merged") 223) (Value.ref 40), DictEntry.mk (PyData.keyHash P (Str.ofString "triple_of")) (Value.str (Str.ofString "triple_of") 234) (Value.ref 47), DictEntry.mk (PyData.keyHash P (Str.ofString "Kept")) (Value.str (Str.ofString "Kept") 330) (Value.ref 114), DictEntry.mk (PyData.keyHash P (Str.ofString "_law_whole")) (Value.str (Str.ofString "_law_whole") 339) (Value.ref 125), DictEntry.mk (PyData.keyHash P (Str.ofString "_law_at")) (Value.str (Str.ofString "_law_at") 347) (Value.ref 132), DictEntry.mk (PyData.keyHash P (Str.ofString "_law_value")) (Value.str (Str.ofString "_law_value") 354) (Value.ref 139), DictEntry.mk (PyData.keyHash P (Str.ofString "_law_row")) (Value.str (Str.ofString "_law_row") 360) (Value.ref 144), DictEntry.mk (PyData.keyHash P (Str.ofString "_law_order")) (Value.str (Str.ofString "_law_order") 372) (Value.ref 151), DictEntry.mk (PyData.keyHash P (Str.ofString "_law_triple")) (Value.str (Str.ofString "_law_triple") 386) (Value.ref 158), DictEntry.mk (PyData.keyHash P (Str.ofString "_law_ends")) (Value.str (Str.ofString "_law_ends") 397) (Value.ref 165), DictEntry.mk (PyData.keyHash P (Str.ofString "_law_between")) (Value.str (Str.ofString "_law_between") 405) (Value.ref 172), DictEntry.mk (PyData.keyHash P (Str.ofString "_law_in_stretch")) (Value.str (Str.ofString "_law_in_stretch") 416) (Value.ref 179), DictEntry.mk (PyData.keyHash P (Str.ofString "_law_ahead")) (Value.str (Str.ofString "_law_ahead") 425) (Value.ref 186), DictEntry.mk (PyData.keyHash P (Str.ofString "_law_in_order")) (Value.str (Str.ofString "_law_in_order") 431) (Value.ref 191), DictEntry.mk (PyData.keyHash P (Str.ofString "_law_good")) (Value.str (Str.ofString "_law_good") 437) (Value.ref 196), DictEntry.mk (PyData.keyHash P (Str.ofString "law")) (Value.str (Str.ofString "law") 443) (Value.ref 201)] 28) #[]
noncomputable def o20 : Params → Obj := fun P => Obj.mk (Value.type "code") none (Data.fields #[Value.str (Str.ofString "_wall") 187, Value.str (Str.ofString "_wall") 188, Value.str (Str.ofString "/claim/cut.py") 189, Value.int 1 0, Value.int 1 0, Value.int 0 0, Value.int 0 0, Value.int 3 0, Value.ref 15, Value.bool true, Value.int 181 0, Value.ref 16, Value.none, Value.ref 17, Value.ref 18, Value.ref 19, Value.int 191 0, Value.int 1 0, Value.str (Str.ofString "/claim/cut.py") 192]) #[]
noncomputable def o21 : Params → Obj := fun _ => fob (sAt PySem.Challenge.pw_uf040016_06.main.body [0]) (Str.ofString "_wall") (Value.none) (Value.str (Str.ofString "__main__") 164) (Value.ref 20)
noncomputable def o27 : Params → Obj := fun P => Obj.mk (Value.type "code") none (Data.fields #[Value.str (Str.ofString "less") 196, Value.str (Str.ofString "less") 197, Value.str (Str.ofString "/claim/cut.py") 198, Value.int 5 0, Value.int 2 0, Value.int 0 0, Value.int 0 0, Value.int 3 0, Value.ref 22, Value.bool true, Value.int 181 0, Value.ref 23, Value.none, Value.ref 24, Value.ref 25, Value.ref 26, Value.int 202 0, Value.int 5 0, Value.str (Str.ofString "/claim/cut.py") 203]) #[]
noncomputable def o28 : Params → Obj := fun _ => fob (sAt PySem.Challenge.pw_uf040016_06.main.body [2]) (Str.ofString "less") (Value.none) (Value.str (Str.ofString "waybook.keys") 194) (Value.ref 27)
noncomputable def o34 : Params → Obj := fun P => Obj.mk (Value.type "code") none (Data.fields #[Value.str (Str.ofString "below") 205, Value.str (Str.ofString "below") 206, Value.str (Str.ofString "/claim/cut.py") 207, Value.int 10 0, Value.int 2 0, Value.int 0 0, Value.int 0 0, Value.int 3 0, Value.ref 29, Value.bool true, Value.int 181 0, Value.ref 30, Value.none, Value.ref 31, Value.ref 32, Value.ref 33, Value.int 213 0, Value.int 10 0, Value.str (Str.ofString "/claim/cut.py") 214]) #[]
noncomputable def o35 : Params → Obj := fun _ => fob (sAt PySem.Challenge.pw_uf040016_06.main.body [3]) (Str.ofString "below") (Value.none) (Value.str (Str.ofString "waybook.keys") 194) (Value.ref 34)
noncomputable def o39 : Params → Obj := fun P => Obj.mk (Value.type "code") none (Data.fields #[Value.str (Str.ofString "merged") 218, Value.str (Str.ofString "merged") 219, Value.str (Str.ofString "/claim/cut.py") 220, Value.int 21 0, Value.int 1 0, Value.int 0 0, Value.int 0 0, Value.int 3 0, Value.ref 36, Value.bool true, Value.int 181 0, Value.ref 37, Value.none, Value.none, Value.none, Value.ref 38, Value.int 221 0, Value.int 21 0, Value.str (Str.ofString "/claim/cut.py") 222]) #[]
noncomputable def o40 : Params → Obj := fun _ => fob (sAt PySem.Challenge.pw_uf040016_06.main.body [5]) (Str.ofString "merged") (Value.none) (Value.str (Str.ofString "waybook.wishes") 216) (Value.ref 39)
noncomputable def o46 : Params → Obj := fun P => Obj.mk (Value.type "code") none (Data.fields #[Value.str (Str.ofString "triple_of") 226, Value.str (Str.ofString "triple_of") 227, Value.str (Str.ofString "/claim/cut.py") 228, Value.int 29 0, Value.int 2 0, Value.int 0 0, Value.int 0 0, Value.int 3 0, Value.ref 41, Value.bool true, Value.int 181 0, Value.ref 42, Value.none, Value.ref 43, Value.ref 44, Value.ref 45, Value.int 232 0, Value.int 29 0, Value.str (Str.ofString "/claim/cut.py") 233]) #[]
noncomputable def o47 : Params → Obj := fun _ => fob (sAt PySem.Challenge.pw_uf040016_06.main.body [7]) (Str.ofString "triple_of") (Value.none) (Value.str (Str.ofString "waybook.orders") 224) (Value.ref 46)
noncomputable def o60 : Params → Obj := fun P => Obj.mk (Value.type "code") none (Data.fields #[Value.str (Str.ofString "__init__") 247, Value.str (Str.ofString "Kept.__init__") 248, Value.str (Str.ofString "/claim/cut.py") 249, Value.int 36 0, Value.int 2 0, Value.int 0 0, Value.int 0 0, Value.int 3 0, Value.ref 55, Value.bool true, Value.int 181 0, Value.ref 56, Value.none, Value.ref 57, Value.ref 58, Value.ref 59, Value.int 252 0, Value.int 36 0, Value.str (Str.ofString "/claim/cut.py") 253]) #[]
noncomputable def o61 : Params → Obj := fun _ => fob (sAt PySem.Challenge.pw_uf040016_06.main.body [8, 0]) (Str.ofString "Kept.__init__") (Value.none) (Value.str (Str.ofString "waybook.orders") 224) (Value.ref 60)
noncomputable def o65 : Params → Obj := fun P => Obj.mk (Value.type "code") none (Data.fields #[Value.str (Str.ofString "entry_of") 255, Value.str (Str.ofString "Kept.entry_of") 256, Value.str (Str.ofString "/claim/cut.py") 257, Value.int 40 0, Value.int 3 0, Value.int 0 0, Value.int 0 0, Value.int 3 0, Value.ref 62, Value.bool true, Value.int 181 0, Value.ref 63, Value.none, Value.none, Value.none, Value.ref 64, Value.int 258 0, Value.int 40 0, Value.str (Str.ofString "/claim/cut.py") 259]) #[]
noncomputable def o66 : Params → Obj := fun _ => fob (sAt PySem.Challenge.pw_uf040016_06.main.body [8, 1]) (Str.ofString "Kept.entry_of") (Value.none) (Value.str (Str.ofString "waybook.orders") 224) (Value.ref 65)
noncomputable def o72 : Params → Obj := fun P => Obj.mk (Value.type "code") none (Data.fields #[Value.str (Str.ofString "put") 261, Value.str (Str.ofString "Kept.put") 262, Value.str (Str.ofString "/claim/cut.py") 263, Value.int 43 0, Value.int 3 0, Value.int 0 0, Value.int 0 0, Value.int 3 0, Value.ref 67, Value.bool true, Value.int 181 0, Value.ref 68, Value.none, Value.ref 69, Value.ref 70, Value.ref 71, Value.int 268 0, Value.int 43 0, Value.str (Str.ofString "/claim/cut.py") 269]) #[]
noncomputable def o73 : Params → Obj := fun _ => fob (sAt PySem.Challenge.pw_uf040016_06.main.body [8, 2]) (Str.ofString "Kept.put") (Value.none) (Value.str (Str.ofString "waybook.orders") 224) (Value.ref 72)
noncomputable def o79 : Params → Obj := fun P => Obj.mk (Value.type "code") none (Data.fields #[Value.str (Str.ofString "drop") 271, Value.str (Str.ofString "Kept.drop") 272, Value.str (Str.ofString "/claim/cut.py") 273, Value.int 47 0, Value.int 3 0, Value.int 0 0, Value.int 0 0, Value.int 3 0, Value.ref 74, Value.bool true, Value.int 181 0, Value.ref 75, Value.none, Value.ref 76, Value.ref 77, Value.ref 78, Value.int 277 0, Value.int 47 0, Value.str (Str.ofString "/claim/cut.py") 278]) #[]
noncomputable def o80 : Params → Obj := fun _ => fob (sAt PySem.Challenge.pw_uf040016_06.main.body [8, 3]) (Str.ofString "Kept.drop") (Value.none) (Value.str (Str.ofString "waybook.orders") 224) (Value.ref 79)
noncomputable def o84 : Params → Obj := fun P => Obj.mk (Value.type "code") none (Data.fields #[Value.str (Str.ofString "numbers") 280, Value.str (Str.ofString "Kept.numbers") 281, Value.str (Str.ofString "/claim/cut.py") 282, Value.int 50 0, Value.int 1 0, Value.int 0 0, Value.int 0 0, Value.int 3 0, Value.ref 81, Value.bool true, Value.int 181 0, Value.ref 82, Value.none, Value.none, Value.none, Value.ref 83, Value.int 283 0, Value.int 50 0, Value.str (Str.ofString "/claim/cut.py") 284]) #[]
noncomputable def o85 : Params → Obj := fun _ => fob (sAt PySem.Challenge.pw_uf040016_06.main.body [8, 4]) (Str.ofString "Kept.numbers") (Value.none) (Value.str (Str.ofString "waybook.orders") 224) (Value.ref 84)
noncomputable def o91 : Params → Obj := fun P => Obj.mk (Value.type "code") none (Data.fields #[Value.str (Str.ofString "bounds") 286, Value.str (Str.ofString "Kept.bounds") 287, Value.str (Str.ofString "/claim/cut.py") 288, Value.int 53 0, Value.int 2 0, Value.int 0 0, Value.int 0 0, Value.int 3 0, Value.ref 86, Value.bool true, Value.int 181 0, Value.ref 87, Value.none, Value.ref 88, Value.ref 89, Value.ref 90, Value.int 295 0, Value.int 53 0, Value.str (Str.ofString "/claim/cut.py") 296]) #[]
noncomputable def o92 : Params → Obj := fun _ => fob (sAt PySem.Challenge.pw_uf040016_06.main.body [8, 5]) (Str.ofString "Kept.bounds") (Value.none) (Value.str (Str.ofString "waybook.orders") 224) (Value.ref 91)
noncomputable def o98 : Params → Obj := fun P => Obj.mk (Value.type "code") none (Data.fields #[Value.str (Str.ofString "behind") 298, Value.str (Str.ofString "Kept.behind") 299, Value.str (Str.ofString "/claim/cut.py") 300, Value.int 63 0, Value.int 2 0, Value.int 0 0, Value.int 0 0, Value.int 3 0, Value.ref 93, Value.bool true, Value.int 181 0, Value.ref 94, Value.none, Value.ref 95, Value.ref 96, Value.ref 97, Value.int 303 0, Value.int 63 0, Value.str (Str.ofString "/claim/cut.py") 304]) #[]
noncomputable def o99 : Params → Obj := fun _ => fob (sAt PySem.Challenge.pw_uf040016_06.main.body [8, 6]) (Str.ofString "Kept.behind") (Value.none) (Value.str (Str.ofString "waybook.orders") 224) (Value.ref 98)
noncomputable def o103 : Params → Obj := fun P => Obj.mk (Value.type "code") none (Data.fields #[Value.str (Str.ofString "stretch") 306, Value.str (Str.ofString "Kept.stretch") 307, Value.str (Str.ofString "/claim/cut.py") 308, Value.int 68 0, Value.int 2 0, Value.int 0 0, Value.int 0 0, Value.int 3 0, Value.ref 100, Value.bool true, Value.int 181 0, Value.ref 101, Value.none, Value.none, Value.none, Value.ref 102, Value.int 309 0, Value.int 68 0, Value.str (Str.ofString "/claim/cut.py") 310]) #[]
noncomputable def o104 : Params → Obj := fun _ => fob (sAt PySem.Challenge.pw_uf040016_06.main.body [8, 7]) (Str.ofString "Kept.stretch") (Value.none) (Value.str (Str.ofString "waybook.orders") 224) (Value.ref 103)
noncomputable def o110 : Params → Obj := fun P => Obj.mk (Value.type "code") none (Data.fields #[Value.str (Str.ofString "covers") 312, Value.str (Str.ofString "Kept.covers") 313, Value.str (Str.ofString "/claim/cut.py") 314, Value.int 80 0, Value.int 2 0, Value.int 0 0, Value.int 0 0, Value.int 3 0, Value.ref 105, Value.bool true, Value.int 181 0, Value.ref 106, Value.none, Value.ref 107, Value.ref 108, Value.ref 109, Value.int 318 0, Value.int 80 0, Value.str (Str.ofString "/claim/cut.py") 319]) #[]
noncomputable def o111 : Params → Obj := fun _ => fob (sAt PySem.Challenge.pw_uf040016_06.main.body [8, 8]) (Str.ofString "Kept.covers") (Value.none) (Value.str (Str.ofString "waybook.orders") 224) (Value.ref 110)
noncomputable def o113 : Params → Obj := fun P => Obj.mk (Value.type "dict") none (Data.dict #[DictEntry.mk (PyData.keyHash P (Str.ofString "__module__")) (Value.str (Str.ofString "__module__") 242) (Value.str (Str.ofString "waybook.orders") 224), DictEntry.mk (PyData.keyHash P (Str.ofString "__firstlineno__")) (Value.str (Str.ofString "__firstlineno__") 246) (Value.int 34 245), DictEntry.mk (PyData.keyHash P (Str.ofString "__init__")) (Value.str (Str.ofString "__init__") 254) (Value.ref 61), DictEntry.mk (PyData.keyHash P (Str.ofString "entry_of")) (Value.str (Str.ofString "entry_of") 260) (Value.ref 66), DictEntry.mk (PyData.keyHash P (Str.ofString "put")) (Value.str (Str.ofString "put") 270) (Value.ref 73), DictEntry.mk (PyData.keyHash P (Str.ofString "drop")) (Value.str (Str.ofString "drop") 279) (Value.ref 80), DictEntry.mk (PyData.keyHash P (Str.ofString "numbers")) (Value.str (Str.ofString "numbers") 285) (Value.ref 85), DictEntry.mk (PyData.keyHash P (Str.ofString "bounds")) (Value.str (Str.ofString "bounds") 297) (Value.ref 92), DictEntry.mk (PyData.keyHash P (Str.ofString "behind")) (Value.str (Str.ofString "behind") 305) (Value.ref 99), DictEntry.mk (PyData.keyHash P (Str.ofString "stretch")) (Value.str (Str.ofString "stretch") 311) (Value.ref 104), DictEntry.mk (PyData.keyHash P (Str.ofString "covers")) (Value.str (Str.ofString "covers") 320) (Value.ref 111), DictEntry.mk (PyData.keyHash P (Str.ofString "__static_attributes__")) (Value.str (Str.ofString "__static_attributes__") 323) (Value.ref 112), DictEntry.mk (PyData.keyHash P (Str.ofString "__dict__")) (Value.str (Str.ofString "__dict__") 325) (Value.ref 115), DictEntry.mk (PyData.keyHash P (Str.ofString "__weakref__")) (Value.str (Str.ofString "__weakref__") 327) (Value.ref 116), DictEntry.mk (PyData.keyHash P (Str.ofString "__doc__")) (Value.str (Str.ofString "__doc__") 328) Value.none] 4) #[]
noncomputable def o114 : Params → Obj := fun P => Obj.mk (Value.type "type") none (Data.cls (ClassData.mk (Str.ofString "Kept") [Value.type "object"] [Value.ref 114, Value.type "object"] 113 (Str.ofString "Kept") true [] [] false none false)) #[none, none, some (Value.str (Str.ofString "Kept") 235), some (Value.str (Str.ofString "Kept") 243), some (Value.builtin "object.__new__"), some (Value.bool true)]
noncomputable def o115 : Params → Obj := fun P => Obj.mk (Value.type "getset_descriptor") none (Data.fields #[Value.str (Str.ofString "__dict__") 324, Value.ref 114, Value.builtin "function.__dict__", Value.builtin "function.__dict__#set"]) #[]
noncomputable def o116 : Params → Obj := fun P => Obj.mk (Value.type "getset_descriptor") none (Data.fields #[Value.str (Str.ofString "__weakref__") 326, Value.ref 114, Value.builtin "ExceptionGroup.__weakref__", Value.none]) #[]
noncomputable def o124 : Params → Obj := fun P => Obj.mk (Value.type "code") none (Data.fields #[Value.str (Str.ofString "_law_whole") 333, Value.str (Str.ofString "_law_whole") 334, Value.str (Str.ofString "/claim/cut.py") 335, Value.int 86 0, Value.int 1 0, Value.int 0 0, Value.int 0 0, Value.int 3 0, Value.ref 119, Value.bool true, Value.int 181 0, Value.ref 120, Value.none, Value.ref 121, Value.ref 122, Value.ref 123, Value.int 337 0, Value.int 86 0, Value.str (Str.ofString "/claim/cut.py") 338]) #[]
noncomputable def o125 : Params → Obj := fun _ => fob (sAt PySem.Challenge.pw_uf040016_06.main.body [10]) (Str.ofString "_law_whole") (Value.none) (Value.str (Str.ofString "law_uf040016_06") 331) (Value.ref 124)
noncomputable def o131 : Params → Obj := fun P => Obj.mk (Value.type "code") none (Data.fields #[Value.str (Str.ofString "_law_at") 340, Value.str (Str.ofString "_law_at") 341, Value.str (Str.ofString "/claim/cut.py") 342, Value.int 88 0, Value.int 2 0, Value.int 0 0, Value.int 0 0, Value.int 3 0, Value.ref 126, Value.bool true, Value.int 181 0, Value.ref 127, Value.none, Value.ref 128, Value.ref 129, Value.ref 130, Value.int 345 0, Value.int 88 0, Value.str (Str.ofString "/claim/cut.py") 346]) #[]
noncomputable def o132 : Params → Obj := fun _ => fob (sAt PySem.Challenge.pw_uf040016_06.main.body [11]) (Str.ofString "_law_at") (Value.none) (Value.str (Str.ofString "law_uf040016_06") 331) (Value.ref 131)
noncomputable def o138 : Params → Obj := fun P => Obj.mk (Value.type "code") none (Data.fields #[Value.str (Str.ofString "_law_value") 348, Value.str (Str.ofString "_law_value") 349, Value.str (Str.ofString "/claim/cut.py") 350, Value.int 92 0, Value.int 1 0, Value.int 0 0, Value.int 0 0, Value.int 3 0, Value.ref 133, Value.bool true, Value.int 181 0, Value.ref 134, Value.none, Value.ref 135, Value.ref 136, Value.ref 137, Value.int 352 0, Value.int 92 0, Value.str (Str.ofString "/claim/cut.py") 353]) #[]
noncomputable def o139 : Params → Obj := fun _ => fob (sAt PySem.Challenge.pw_uf040016_06.main.body [12]) (Str.ofString "_law_value") (Value.none) (Value.str (Str.ofString "law_uf040016_06") 331) (Value.ref 138)
noncomputable def o143 : Params → Obj := fun P => Obj.mk (Value.type "code") none (Data.fields #[Value.str (Str.ofString "_law_row") 355, Value.str (Str.ofString "_law_row") 356, Value.str (Str.ofString "/claim/cut.py") 357, Value.int 106 0, Value.int 2 0, Value.int 0 0, Value.int 0 0, Value.int 3 0, Value.ref 140, Value.bool true, Value.int 181 0, Value.ref 141, Value.none, Value.none, Value.none, Value.ref 142, Value.int 358 0, Value.int 106 0, Value.str (Str.ofString "/claim/cut.py") 359]) #[]
noncomputable def o144 : Params → Obj := fun _ => fob (sAt PySem.Challenge.pw_uf040016_06.main.body [13]) (Str.ofString "_law_row") (Value.none) (Value.str (Str.ofString "law_uf040016_06") 331) (Value.ref 143)
noncomputable def o150 : Params → Obj := fun P => Obj.mk (Value.type "code") none (Data.fields #[Value.str (Str.ofString "_law_order") 361, Value.str (Str.ofString "_law_order") 362, Value.str (Str.ofString "/claim/cut.py") 363, Value.int 108 0, Value.int 2 0, Value.int 0 0, Value.int 0 0, Value.int 3 0, Value.ref 145, Value.bool true, Value.int 181 0, Value.ref 146, Value.none, Value.ref 147, Value.ref 148, Value.ref 149, Value.int 370 0, Value.int 108 0, Value.str (Str.ofString "/claim/cut.py") 371]) #[]
noncomputable def o151 : Params → Obj := fun _ => fob (sAt PySem.Challenge.pw_uf040016_06.main.body [14]) (Str.ofString "_law_order") (Value.none) (Value.str (Str.ofString "law_uf040016_06") 331) (Value.ref 150)
noncomputable def o157 : Params → Obj := fun P => Obj.mk (Value.type "code") none (Data.fields #[Value.str (Str.ofString "_law_triple") 373, Value.str (Str.ofString "_law_triple") 374, Value.str (Str.ofString "/claim/cut.py") 375, Value.int 116 0, Value.int 3 0, Value.int 0 0, Value.int 0 0, Value.int 3 0, Value.ref 152, Value.bool true, Value.int 181 0, Value.ref 153, Value.none, Value.ref 154, Value.ref 155, Value.ref 156, Value.int 384 0, Value.int 116 0, Value.str (Str.ofString "/claim/cut.py") 385]) #[]
noncomputable def o158 : Params → Obj := fun _ => fob (sAt PySem.Challenge.pw_uf040016_06.main.body [15]) (Str.ofString "_law_triple") (Value.none) (Value.str (Str.ofString "law_uf040016_06") 331) (Value.ref 157)
noncomputable def o164 : Params → Obj := fun P => Obj.mk (Value.type "code") none (Data.fields #[Value.str (Str.ofString "_law_ends") 387, Value.str (Str.ofString "_law_ends") 388, Value.str (Str.ofString "/claim/cut.py") 389, Value.int 135 0, Value.int 2 0, Value.int 0 0, Value.int 0 0, Value.int 3 0, Value.ref 159, Value.bool true, Value.int 181 0, Value.ref 160, Value.none, Value.ref 161, Value.ref 162, Value.ref 163, Value.int 395 0, Value.int 135 0, Value.str (Str.ofString "/claim/cut.py") 396]) #[]
noncomputable def o165 : Params → Obj := fun _ => fob (sAt PySem.Challenge.pw_uf040016_06.main.body [16]) (Str.ofString "_law_ends") (Value.none) (Value.str (Str.ofString "law_uf040016_06") 331) (Value.ref 164)
noncomputable def o171 : Params → Obj := fun P => Obj.mk (Value.type "code") none (Data.fields #[Value.str (Str.ofString "_law_between") 398, Value.str (Str.ofString "_law_between") 399, Value.str (Str.ofString "/claim/cut.py") 400, Value.int 144 0, Value.int 2 0, Value.int 0 0, Value.int 0 0, Value.int 3 0, Value.ref 166, Value.bool true, Value.int 181 0, Value.ref 167, Value.none, Value.ref 168, Value.ref 169, Value.ref 170, Value.int 403 0, Value.int 144 0, Value.str (Str.ofString "/claim/cut.py") 404]) #[]
noncomputable def o172 : Params → Obj := fun _ => fob (sAt PySem.Challenge.pw_uf040016_06.main.body [17]) (Str.ofString "_law_between") (Value.none) (Value.str (Str.ofString "law_uf040016_06") 331) (Value.ref 171)
noncomputable def o178 : Params → Obj := fun P => Obj.mk (Value.type "code") none (Data.fields #[Value.str (Str.ofString "_law_in_stretch") 406, Value.str (Str.ofString "_law_in_stretch") 407, Value.str (Str.ofString "/claim/cut.py") 408, Value.int 148 0, Value.int 3 0, Value.int 0 0, Value.int 0 0, Value.int 3 0, Value.ref 173, Value.bool true, Value.int 181 0, Value.ref 174, Value.none, Value.ref 175, Value.ref 176, Value.ref 177, Value.int 414 0, Value.int 148 0, Value.str (Str.ofString "/claim/cut.py") 415]) #[]
noncomputable def o179 : Params → Obj := fun _ => fob (sAt PySem.Challenge.pw_uf040016_06.main.body [18]) (Str.ofString "_law_in_stretch") (Value.none) (Value.str (Str.ofString "law_uf040016_06") 331) (Value.ref 178)
noncomputable def o185 : Params → Obj := fun P => Obj.mk (Value.type "code") none (Data.fields #[Value.str (Str.ofString "_law_ahead") 417, Value.str (Str.ofString "_law_ahead") 418, Value.str (Str.ofString "/claim/cut.py") 419, Value.int 156 0, Value.int 2 0, Value.int 0 0, Value.int 0 0, Value.int 3 0, Value.ref 180, Value.bool true, Value.int 181 0, Value.ref 181, Value.none, Value.ref 182, Value.ref 183, Value.ref 184, Value.int 423 0, Value.int 156 0, Value.str (Str.ofString "/claim/cut.py") 424]) #[]
noncomputable def o186 : Params → Obj := fun _ => fob (sAt PySem.Challenge.pw_uf040016_06.main.body [19]) (Str.ofString "_law_ahead") (Value.none) (Value.str (Str.ofString "law_uf040016_06") 331) (Value.ref 185)
noncomputable def o190 : Params → Obj := fun P => Obj.mk (Value.type "code") none (Data.fields #[Value.str (Str.ofString "_law_in_order") 426, Value.str (Str.ofString "_law_in_order") 427, Value.str (Str.ofString "/claim/cut.py") 428, Value.int 161 0, Value.int 3 0, Value.int 0 0, Value.int 0 0, Value.int 3 0, Value.ref 187, Value.bool true, Value.int 181 0, Value.ref 188, Value.none, Value.none, Value.none, Value.ref 189, Value.int 429 0, Value.int 161 0, Value.str (Str.ofString "/claim/cut.py") 430]) #[]
noncomputable def o191 : Params → Obj := fun _ => fob (sAt PySem.Challenge.pw_uf040016_06.main.body [20]) (Str.ofString "_law_in_order") (Value.none) (Value.str (Str.ofString "law_uf040016_06") 331) (Value.ref 190)
noncomputable def o195 : Params → Obj := fun P => Obj.mk (Value.type "code") none (Data.fields #[Value.str (Str.ofString "_law_good") 432, Value.str (Str.ofString "_law_good") 433, Value.str (Str.ofString "/claim/cut.py") 434, Value.int 171 0, Value.int 4 0, Value.int 0 0, Value.int 0 0, Value.int 3 0, Value.ref 192, Value.bool true, Value.int 181 0, Value.ref 193, Value.none, Value.none, Value.none, Value.ref 194, Value.int 435 0, Value.int 171 0, Value.str (Str.ofString "/claim/cut.py") 436]) #[]
noncomputable def o196 : Params → Obj := fun _ => fob (sAt PySem.Challenge.pw_uf040016_06.main.body [21]) (Str.ofString "_law_good") (Value.none) (Value.str (Str.ofString "law_uf040016_06") 331) (Value.ref 195)
noncomputable def o200 : Params → Obj := fun P => Obj.mk (Value.type "code") none (Data.fields #[Value.str (Str.ofString "law") 438, Value.str (Str.ofString "law") 439, Value.str (Str.ofString "/claim/cut.py") 440, Value.int 184 0, Value.int 1 0, Value.int 0 0, Value.int 0 0, Value.int 3 0, Value.ref 197, Value.bool true, Value.int 181 0, Value.ref 198, Value.none, Value.none, Value.none, Value.ref 199, Value.int 441 0, Value.int 184 0, Value.str (Str.ofString "/claim/cut.py") 442]) #[]
noncomputable def o201 : Params → Obj := fun _ => fob (sAt PySem.Challenge.pw_uf040016_06.main.body [22]) (Str.ofString "law") (Value.none) (Value.str (Str.ofString "law_uf040016_06") 331) (Value.ref 200)
noncomputable def K : Params → Frag := fun P => (nat_lit 2, o2 P) :: (nat_lit 3, o3 P) :: (nat_lit 20, o20 P) :: (nat_lit 21, o21 P) :: (nat_lit 27, o27 P) :: (nat_lit 28, o28 P) :: (nat_lit 34, o34 P) :: (nat_lit 35, o35 P) :: (nat_lit 39, o39 P) :: (nat_lit 40, o40 P) :: (nat_lit 46, o46 P) :: (nat_lit 47, o47 P) :: (nat_lit 60, o60 P) :: (nat_lit 61, o61 P) :: (nat_lit 65, o65 P) :: (nat_lit 66, o66 P) :: (nat_lit 72, o72 P) :: (nat_lit 73, o73 P) :: (nat_lit 79, o79 P) :: (nat_lit 80, o80 P) :: (nat_lit 84, o84 P) :: (nat_lit 85, o85 P) :: (nat_lit 91, o91 P) :: (nat_lit 92, o92 P) :: (nat_lit 98, o98 P) :: (nat_lit 99, o99 P) :: (nat_lit 103, o103 P) :: (nat_lit 104, o104 P) :: (nat_lit 110, o110 P) :: (nat_lit 111, o111 P) :: (nat_lit 113, o113 P) :: (nat_lit 114, o114 P) :: (nat_lit 115, o115 P) :: (nat_lit 116, o116 P) :: (nat_lit 124, o124 P) :: (nat_lit 125, o125 P) :: (nat_lit 131, o131 P) :: (nat_lit 132, o132 P) :: (nat_lit 138, o138 P) :: (nat_lit 139, o139 P) :: (nat_lit 143, o143 P) :: (nat_lit 144, o144 P) :: (nat_lit 150, o150 P) :: (nat_lit 151, o151 P) :: (nat_lit 157, o157 P) :: (nat_lit 158, o158 P) :: (nat_lit 164, o164 P) :: (nat_lit 165, o165 P) :: (nat_lit 171, o171 P) :: (nat_lit 172, o172 P) :: (nat_lit 178, o178 P) :: (nat_lit 179, o179 P) :: (nat_lit 185, o185 P) :: (nat_lit 186, o186 P) :: (nat_lit 190, o190 P) :: (nat_lit 191, o191 P) :: (nat_lit 195, o195 P) :: (nat_lit 196, o196 P) :: (nat_lit 200, o200 P) :: (nat_lit 201, o201 P) :: []
noncomputable abbrev as : List Addr := [nat_lit 2, nat_lit 3, nat_lit 20, nat_lit 21, nat_lit 27, nat_lit 28, nat_lit 34, nat_lit 35, nat_lit 39, nat_lit 40, nat_lit 46, nat_lit 47, nat_lit 60, nat_lit 61, nat_lit 65, nat_lit 66, nat_lit 72, nat_lit 73, nat_lit 79, nat_lit 80, nat_lit 84, nat_lit 85, nat_lit 91, nat_lit 92, nat_lit 98, nat_lit 99, nat_lit 103, nat_lit 104, nat_lit 110, nat_lit 111, nat_lit 113, nat_lit 114, nat_lit 115, nat_lit 116, nat_lit 124, nat_lit 125, nat_lit 131, nat_lit 132, nat_lit 138, nat_lit 139, nat_lit 143, nat_lit 144, nat_lit 150, nat_lit 151, nat_lit 157, nat_lit 158, nat_lit 164, nat_lit 165, nat_lit 171, nat_lit 172, nat_lit 178, nat_lit 179, nat_lit 185, nat_lit 186, nat_lit 190, nat_lit 191, nat_lit 195, nat_lit 196, nat_lit 200, nat_lit 201]
theorem as_eq : ∀ P, as = (K P).map (·.1) := fun _ => by kernel_rfl
noncomputable def T0 : Params → BT := fun P => (.node (boot_o_0 P) (.node (boot_o_1 P) (.node (boot_o_3 P) (.node (boot_o_7 P) .nil .nil) .nil) (.node (boot_o_5 P) (.node (boot_o_9 P) .nil .nil) .nil)) (.node (boot_o_2 P) (.node (boot_o_4 P) (.node (boot_o_8 P) .nil .nil) .nil) (.node (boot_o_6 P) (.node (boot_o_10 P) .nil .nil) .nil)))
noncomputable abbrev q : Program := view PySem.Challenge.pw_uf040016_06 [0, 2, 3, 5, 7, 8, 10, 11, 12, 13, 14, 15, 16, 17, 18, 19, 20, 21, 22]
noncomputable abbrev H : Hook := kHook K as as_eq
set_option linter.unusedVariables true
theorem run (w : World) : (fun os => (topG through (stepOk 11 (some (.ref 6))) (stepT (denote treeTable) PySem.Challenge.pw_uf040016_06 w) 1363 ⟨T0 w.params, 11, {}, Array.mk [], boot_drawn, boot_toks, os⟩ (topStub PySem.Challenge.pw_uf040016_06)).map (fun s =>
    ((staticsOk (importedModules PySem.Challenge.pw_uf040016_06.main.body) (boot_heap w.params) s.abs.heap && namesBound PySem.Challenge.pw_uf040016_06 s.abs.heap && gensDone s.abs && laidKept (boot_heap w.params) s.abs.heap),
      openSeen (view PySem.Challenge.pw_uf040016_06 [0, 2, 3, 5, 7, 8, 10, 11, 12, 13, 14, 15, 16, 17, 18, 19, 20, 21, 22]) [] (importedModules PySem.Challenge.pw_uf040016_06.main.body) (fun s => xlAt (view PySem.Challenge.pw_uf040016_06 [0, 2, 3, 5, 7, 8, 10, 11, 12, 13, 14, 15, 16, 17, 18, 19, 20, 21, 22]) [] s && recOk [] s) true s.abs, as.map s.abs.heap.get?))) = fun _ => some (true, openGood (view PySem.Challenge.pw_uf040016_06 [0, 2, 3, 5, 7, 8, 10, 11, 12, 13, 14, 15, 16, 17, 18, 19, 20, 21, 22]) [], (K w.params).map fun x => some x.2) := by
  rw [PySem.W.Fast.te6613529449190102663, PySem.W.Fast.te10156331382660048174, PySem.W.Fast.te11892475500146522536, PySem.W.Fast.te14364793385576792824, PySem.W.Fast.te4187177175401517315, PySem.W.Fast.te5923862056798008813]
  kernel_rfl
theorem left : LeftO PySem.Challenge.pw_uf040016_06 q [] (fun s => xlAt q [] s && recOk [] s) (Hook.obs H) (Hook.val H) 1363 :=
  left_of_tree (T₀ := T0) (m₀ := 11) (M := 1363) (li := {}) (ann := some (.ref 6)) (by kernel_rfl) (by decide) (fun _ => by kernel_rfl) (fun _ => by kernel_rfl) (fun _ => by kernel_rfl) (by decide) run
end Mine.L06

open PySem PySem.W PyProof.Rows
set_option Elab.async false
namespace Mine.L06
set_option maxRecDepth 100000
set_option maxHeartbeats 4000000
theorem fill : PySem.Challenge.rw_uf040016_06 = PySem.Challenge.rw_uf040016_06 ∧ K = K := by
  k_fill
  exact ⟨rfl, rfl⟩

noncomputable def gv : Nat → Value
  | 0 => .type "range"
  | 1 => .builtin "min"
  | 2 => .builtin "len"
  | 3 => .ref 28
  | 4 => .builtin "sorted"
  | 5 => .type "set"
  | 6 => .builtin "max"
  | 8 => .ref 35
  | 9 => .ref 40
  | 10 => .ref 47
  | 13 => .builtin "isinstance"
  | 14 => .type "int"
  | 15 => .type "bool"
  | 16 => .ref 139
  | 17 => .type "list"
  | 18 => .type "tuple"
  | 19 => .ref 165
  | 20 => .ref 172
  | 21 => .ref 125
  | 22 => .ref 186
  | 25 => .ref 179
  | 26 => .ref 191
  | 27 => .ref 132
  | 28 => .ref 151
  | 29 => .ref 144
  | 30 => .ref 158
  | 32 => .ref 114
  | 33 => .ref 196
  | _ => .none
noncomputable abbrev gl : List Nat := [0, 1, 2, 3, 4, 5, 6, 8, 9, 10, 13, 14, 15, 16, 17, 18, 19, 20, 21, 22, 25, 26, 27, 28, 29, 30, 32, 33]
noncomputable abbrev tb (nm : Nat → Str) (fns : List Nat) (at_ se : List (Nat × Str)) (me : List (Nat × Str × Nat)) (ne : List (Nat × Nat)) : Tb := ⟨⟨nm, gn⟩, gv, gl, fns, at_, se, me, ne⟩

theorem globs (c : Cx) (KX : (K c.w.params).In c.b) (B : ∀ x : Str, x ≠ "__name__" → c.mb x = bootBuiltins x) : ∀ g ∈ gl, c.glob (gn g) = some (gv g) := by
  refine List.forall_mem_cons.mpr ⟨globB (x := Str.ofString "range") (mg_none_of (n := Str.ofString "range") KX c.hg (by k_is)) B (by decide) (by boot_by_name), ?_⟩
  refine List.forall_mem_cons.mpr ⟨globB (x := Str.ofString "min") (mg_none_of (n := Str.ofString "min") KX c.hg (by k_is)) B (by decide) (by boot_by_name), ?_⟩
  refine List.forall_mem_cons.mpr ⟨globB (x := Str.ofString "len") (mg_none_of (n := Str.ofString "len") KX c.hg (by k_is)) B (by decide) (by boot_by_name), ?_⟩
  refine List.forall_mem_cons.mpr ⟨globF (mg_of (n := Str.ofString "less") KX c.hg (by k_is)), ?_⟩
  refine List.forall_mem_cons.mpr ⟨globB (x := Str.ofString "sorted") (mg_none_of (n := Str.ofString "sorted") KX c.hg (by k_is)) B (by decide) (by boot_by_name), ?_⟩
  refine List.forall_mem_cons.mpr ⟨globB (x := Str.ofString "set") (mg_none_of (n := Str.ofString "set") KX c.hg (by k_is)) B (by decide) (by boot_by_name), ?_⟩
  refine List.forall_mem_cons.mpr ⟨globB (x := Str.ofString "max") (mg_none_of (n := Str.ofString "max") KX c.hg (by k_is)) B (by decide) (by boot_by_name), ?_⟩
  refine List.forall_mem_cons.mpr ⟨globF (mg_of (n := Str.ofString "below") KX c.hg (by k_is)), ?_⟩
  refine List.forall_mem_cons.mpr ⟨globF (mg_of (n := Str.ofString "merged") KX c.hg (by k_is)), ?_⟩
  refine List.forall_mem_cons.mpr ⟨globF (mg_of (n := Str.ofString "triple_of") KX c.hg (by k_is)), ?_⟩
  refine List.forall_mem_cons.mpr ⟨globB (x := Str.ofString "isinstance") (mg_none_of (n := Str.ofString "isinstance") KX c.hg (by k_is)) B (by decide) (by boot_by_name), ?_⟩
  refine List.forall_mem_cons.mpr ⟨globB (x := Str.ofString "int") (mg_none_of (n := Str.ofString "int") KX c.hg (by k_is)) B (by decide) (by boot_by_name), ?_⟩
  refine List.forall_mem_cons.mpr ⟨globB (x := Str.ofString "bool") (mg_none_of (n := Str.ofString "bool") KX c.hg (by k_is)) B (by decide) (by boot_by_name), ?_⟩
  refine List.forall_mem_cons.mpr ⟨globF (mg_of (n := Str.ofString "_law_value") KX c.hg (by k_is)), ?_⟩
  refine List.forall_mem_cons.mpr ⟨globB (x := Str.ofString "list") (mg_none_of (n := Str.ofString "list") KX c.hg (by k_is)) B (by decide) (by boot_by_name), ?_⟩
  refine List.forall_mem_cons.mpr ⟨globB (x := Str.ofString "tuple") (mg_none_of (n := Str.ofString "tuple") KX c.hg (by k_is)) B (by decide) (by boot_by_name), ?_⟩
  refine List.forall_mem_cons.mpr ⟨globF (mg_of (n := Str.ofString "_law_ends") KX c.hg (by k_is)), ?_⟩
  refine List.forall_mem_cons.mpr ⟨globF (mg_of (n := Str.ofString "_law_between") KX c.hg (by k_is)), ?_⟩
  refine List.forall_mem_cons.mpr ⟨globF (mg_of (n := Str.ofString "_law_whole") KX c.hg (by k_is)), ?_⟩
  refine List.forall_mem_cons.mpr ⟨globF (mg_of (n := Str.ofString "_law_ahead") KX c.hg (by k_is)), ?_⟩
  refine List.forall_mem_cons.mpr ⟨globF (mg_of (n := Str.ofString "_law_in_stretch") KX c.hg (by k_is)), ?_⟩
  refine List.forall_mem_cons.mpr ⟨globF (mg_of (n := Str.ofString "_law_in_order") KX c.hg (by k_is)), ?_⟩
  refine List.forall_mem_cons.mpr ⟨globF (mg_of (n := Str.ofString "_law_at") KX c.hg (by k_is)), ?_⟩
  refine List.forall_mem_cons.mpr ⟨globF (mg_of (n := Str.ofString "_law_order") KX c.hg (by k_is)), ?_⟩
  refine List.forall_mem_cons.mpr ⟨globF (mg_of (n := Str.ofString "_law_row") KX c.hg (by k_is)), ?_⟩
  refine List.forall_mem_cons.mpr ⟨globF (mg_of (n := Str.ofString "_law_triple") KX c.hg (by k_is)), ?_⟩
  refine List.forall_mem_cons.mpr ⟨globF (mg_of (n := Str.ofString "Kept") KX c.hg (by k_is)), ?_⟩
  refine List.forall_mem_cons.mpr ⟨globF (mg_of (n := Str.ofString "_law_good") KX c.hg (by k_is)), ?_⟩
  intro g hg; cases hg

theorem A_114_columns (p : Params) : AttrOk (K p) 114 "columns" := ⟨by k_is, by k_is, _, by k_is, by k_is⟩
theorem A_114_entries (p : Params) : AttrOk (K p) 114 "entries" := ⟨by k_is, by k_is, _, by k_is, by k_is⟩
theorem T_114_columns (p : Params) : SetOk (K p) 114 "columns" := ⟨by k_is, by k_is, by k_is, by k_is⟩
theorem T_114_entries (p : Params) : SetOk (K p) 114 "entries" := ⟨by k_is, by k_is, by k_is, by k_is⟩
theorem M_114_behind (p : Params) : MethOk (K p) 114 "behind" 99 := ⟨by k_is, by k_is, by k_is, by k_is⟩
theorem M_114_bounds (p : Params) : MethOk (K p) 114 "bounds" 92 := ⟨by k_is, by k_is, by k_is, by k_is⟩
theorem M_114_covers (p : Params) : MethOk (K p) 114 "covers" 111 := ⟨by k_is, by k_is, by k_is, by k_is⟩
theorem M_114_entry_of (p : Params) : MethOk (K p) 114 "entry_of" 66 := ⟨by k_is, by k_is, by k_is, by k_is⟩
theorem M_114_put (p : Params) : MethOk (K p) 114 "put" 73 := ⟨by k_is, by k_is, by k_is, by k_is⟩
theorem M_114_stretch (p : Params) : MethOk (K p) 114 "stretch" 104 := ⟨by k_is, by k_is, by k_is, by k_is⟩
theorem N_114 (p : Params) : NewOk (K p) 114 61 := ⟨by k_is, by k_is, by k_is, by k_is⟩

theorem V_less (c : Cx) (hK : c.K = K c.w.params) (KX : (K c.w.params).In c.b) (B : ∀ x : Str, x ≠ "__name__" → c.mb x = bootBuiltins x) : Valid c 1 28 S_less := by
  refine fn_valid (t := tb nm_less [] [] [] [] []) (S := S06) (body := p_less) (vs := [0, 1, 2]) (ps := [0, 1]) (nv := 3) ⟨globs c KX B, (by intro x hx; cases hx), (by intro x hx; cases hx), (by intro x hx; cases hx), (by intro x hx; cases hx), (by intro x hx; cases hx)⟩ (KX 28 _ (by k_is)) rfl (codeRec_of KX (by k_is)) ?_ rfl rfl rfl ?_ ?_ ?_ (less_vc S06)
  · kernel_rfl
  · kernel_rfl
  · kernel_rfl
  · intro us h
    match us, h with
    | [a, b], _ => rfl

theorem V_below (c : Cx) (hK : c.K = K c.w.params) (KX : (K c.w.params).In c.b) (B : ∀ x : Str, x ≠ "__name__" → c.mb x = bootBuiltins x) : Valid c 2 35 S_below := by
  refine fn_valid (t := tb nm_below [3] [] [] [] []) (S := S06) (body := p_below) (vs := [0, 1, 2, 3, 4]) (ps := [0, 1]) (nv := 5) ⟨globs c KX B, List.forall_mem_cons.mpr ⟨⟨_, rfl, (V_less c hK KX B).mono (by decide)⟩, (by intro x hx; cases hx)⟩, (by intro x hx; cases hx), (by intro x hx; cases hx), (by intro x hx; cases hx), (by intro x hx; cases hx)⟩ (KX 35 _ (by k_is)) rfl (codeRec_of KX (by k_is)) ?_ rfl rfl rfl ?_ ?_ ?_ (below_vc S06 rfl)
  · kernel_rfl
  · kernel_rfl
  · kernel_rfl
  · intro us h
    match us, h with
    | [a, b], _ => rfl

theorem V_merged (c : Cx) (hK : c.K = K c.w.params) (KX : (K c.w.params).In c.b) (B : ∀ x : Str, x ≠ "__name__" → c.mb x = bootBuiltins x) : Valid c 1 40 S_merged := by
  refine fn_valid (t := tb nm_merged [] [] [] [] []) (S := S06) (body := p_merged) (vs := [0, 1, 2, 3, 4]) (ps := [0]) (nv := 8) ⟨globs c KX B, (by intro x hx; cases hx), (by intro x hx; cases hx), (by intro x hx; cases hx), (by intro x hx; cases hx), (by intro x hx; cases hx)⟩ (KX 40 _ (by k_is)) rfl (codeRec_of KX (by k_is)) ?_ rfl rfl rfl ?_ ?_ ?_ (merged_vc S06)
  · kernel_rfl
  · kernel_rfl
  · kernel_rfl
  · intro us h
    match us, h with
    | [a], _ => rfl

theorem V_tripof (c : Cx) (hK : c.K = K c.w.params) (KX : (K c.w.params).In c.b) (B : ∀ x : Str, x ≠ "__name__" → c.mb x = bootBuiltins x) : Valid c 1 47 S_tripof := by
  refine fn_valid (t := tb nm_triple_of [] [] [] [] []) (S := S06) (body := p_triple_of) (vs := [0, 1, 2]) (ps := [0, 1]) (nv := 3) ⟨globs c KX B, (by intro x hx; cases hx), (by intro x hx; cases hx), (by intro x hx; cases hx), (by intro x hx; cases hx), (by intro x hx; cases hx)⟩ (KX 47 _ (by k_is)) rfl (codeRec_of KX (by k_is)) ?_ rfl rfl rfl ?_ ?_ ?_ (tripof_vc S06)
  · kernel_rfl
  · kernel_rfl
  · kernel_rfl
  · intro us h
    match us, h with
    | [a, b], _ => rfl

theorem V_init (c : Cx) (hK : c.K = K c.w.params) (KX : (K c.w.params).In c.b) (B : ∀ x : Str, x ≠ "__name__" → c.mb x = bootBuiltins x) : Valid c 1 61 S_init := by
  refine fn_valid (t := tb nm_Kept___init__ [] [] [(114, "columns"), (114, "entries")] [] []) (S := S06) (body := p_Kept___init__) (vs := [0, 1]) (ps := [0, 1]) (nv := 2) ⟨globs c KX B, (by intro x hx; cases hx), (by intro x hx; cases hx), List.forall_mem_cons.mpr ⟨(by rw [hK]; exact T_114_columns _), List.forall_mem_cons.mpr ⟨(by rw [hK]; exact T_114_entries _), (by intro x hx; cases hx)⟩⟩, (by intro x hx; cases hx), (by intro x hx; cases hx)⟩ (KX 61 _ (by k_is)) rfl (codeRec_of KX (by k_is)) ?_ rfl rfl rfl ?_ ?_ ?_ (init_vc S06)
  · kernel_rfl
  · kernel_rfl
  · kernel_rfl
  · intro us h
    match us, h with
    | [a, b], _ => rfl

theorem V_entry (c : Cx) (hK : c.K = K c.w.params) (KX : (K c.w.params).In c.b) (B : ∀ x : Str, x ≠ "__name__" → c.mb x = bootBuiltins x) : Valid c 1 66 S_entry := by
  refine fn_valid (t := tb nm_Kept_entry_of [] [(114, "columns")] [] [] []) (S := S06) (body := p_Kept_entry_of) (vs := [0, 1, 2]) (ps := [0, 1, 2]) (nv := 4) ⟨globs c KX B, (by intro x hx; cases hx), List.forall_mem_cons.mpr ⟨(by rw [hK]; exact A_114_columns _), (by intro x hx; cases hx)⟩, (by intro x hx; cases hx), (by intro x hx; cases hx), (by intro x hx; cases hx)⟩ (KX 66 _ (by k_is)) rfl (codeRec_of KX (by k_is)) ?_ rfl rfl rfl ?_ ?_ ?_ (entry_vc S06)
  · kernel_rfl
  · kernel_rfl
  · kernel_rfl
  · intro us h
    match us, h with
    | [a, b, c], _ => rfl

theorem V_put (c : Cx) (hK : c.K = K c.w.params) (KX : (K c.w.params).In c.b) (B : ∀ x : Str, x ≠ "__name__" → c.mb x = bootBuiltins x) : Valid c 3 73 S_put := by
  refine fn_valid (t := tb nm_Kept_put [8] [(114, "entries")] [] [(114, "entry_of", 7)] []) (S := S06) (body := p_Kept_put) (vs := [0, 1, 2, 3]) (ps := [0, 1, 2]) (nv := 4) ⟨globs c KX B, List.forall_mem_cons.mpr ⟨⟨_, rfl, (V_below c hK KX B).mono (by decide)⟩, (by intro x hx; cases hx)⟩, List.forall_mem_cons.mpr ⟨(by rw [hK]; exact A_114_entries _), (by intro x hx; cases hx)⟩, (by intro x hx; cases hx), List.forall_mem_cons.mpr ⟨⟨_, (by rw [hK]; exact M_114_entry_of _), (V_entry c hK KX B).mono (by decide)⟩, (by intro x hx; cases hx)⟩, (by intro x hx; cases hx)⟩ (KX 73 _ (by k_is)) rfl (codeRec_of KX (by k_is)) ?_ rfl rfl rfl ?_ ?_ ?_ (put_vc S06 rfl rfl)
  · kernel_rfl
  · kernel_rfl
  · kernel_rfl
  · intro us h
    match us, h with
    | [a, b, c], _ => rfl

theorem V_bounds (c : Cx) (hK : c.K = K c.w.params) (KX : (K c.w.params).In c.b) (B : ∀ x : Str, x ≠ "__name__" → c.mb x = bootBuiltins x) : Valid c 2 92 S_bounds := by
  refine fn_valid (t := tb nm_Kept_bounds [9, 10] [(114, "columns")] [] [] []) (S := S06) (body := p_Kept_bounds) (vs := [0, 1, 2, 3, 4, 5]) (ps := [0, 1]) (nv := 6) ⟨globs c KX B, List.forall_mem_cons.mpr ⟨⟨_, rfl, (V_merged c hK KX B).mono (by decide)⟩, List.forall_mem_cons.mpr ⟨⟨_, rfl, (V_tripof c hK KX B).mono (by decide)⟩, (by intro x hx; cases hx)⟩⟩, List.forall_mem_cons.mpr ⟨(by rw [hK]; exact A_114_columns _), (by intro x hx; cases hx)⟩, (by intro x hx; cases hx), (by intro x hx; cases hx), (by intro x hx; cases hx)⟩ (KX 92 _ (by k_is)) rfl (codeRec_of KX (by k_is)) ?_ rfl rfl rfl ?_ ?_ ?_ (bounds_vc S06 rfl rfl)
  · kernel_rfl
  · kernel_rfl
  · kernel_rfl
  · intro us h
    match us, h with
    | [a, b], _ => rfl

theorem V_behind (c : Cx) (hK : c.K = K c.w.params) (KX : (K c.w.params).In c.b) (B : ∀ x : Str, x ≠ "__name__" → c.mb x = bootBuiltins x) : Valid c 3 99 S_behind := by
  refine fn_valid (t := tb nm_Kept_behind [8] [(114, "entries")] [] [] []) (S := S06) (body := p_Kept_behind) (vs := [0, 1]) (ps := [0, 1]) (nv := 2) ⟨globs c KX B, List.forall_mem_cons.mpr ⟨⟨_, rfl, (V_below c hK KX B).mono (by decide)⟩, (by intro x hx; cases hx)⟩, List.forall_mem_cons.mpr ⟨(by rw [hK]; exact A_114_entries _), (by intro x hx; cases hx)⟩, (by intro x hx; cases hx), (by intro x hx; cases hx), (by intro x hx; cases hx)⟩ (KX 99 _ (by k_is)) rfl (codeRec_of KX (by k_is)) ?_ rfl rfl rfl ?_ ?_ ?_ (behind_vc S06 rfl)
  · kernel_rfl
  · kernel_rfl
  · kernel_rfl
  · intro us h
    match us, h with
    | [a, b], _ => rfl

theorem V_stretch (c : Cx) (hK : c.K = K c.w.params) (KX : (K c.w.params).In c.b) (B : ∀ x : Str, x ≠ "__name__" → c.mb x = bootBuiltins x) : Valid c 4 104 S_stretch := by
  refine fn_valid (t := tb nm_Kept_stretch [8] [(114, "entries")] [] [(114, "behind", 12), (114, "bounds", 11)] []) (S := S06) (body := p_Kept_stretch) (vs := [0, 1, 2, 3, 4, 5, 6]) (ps := [0, 1]) (nv := 8) ⟨globs c KX B, List.forall_mem_cons.mpr ⟨⟨_, rfl, (V_below c hK KX B).mono (by decide)⟩, (by intro x hx; cases hx)⟩, List.forall_mem_cons.mpr ⟨(by rw [hK]; exact A_114_entries _), (by intro x hx; cases hx)⟩, (by intro x hx; cases hx), List.forall_mem_cons.mpr ⟨⟨_, (by rw [hK]; exact M_114_behind _), (V_behind c hK KX B).mono (by decide)⟩, List.forall_mem_cons.mpr ⟨⟨_, (by rw [hK]; exact M_114_bounds _), (V_bounds c hK KX B).mono (by decide)⟩, (by intro x hx; cases hx)⟩⟩, (by intro x hx; cases hx)⟩ (KX 104 _ (by k_is)) rfl (codeRec_of KX (by k_is)) ?_ rfl rfl rfl ?_ ?_ ?_ (stretch_vc S06 rfl rfl rfl)
  · kernel_rfl
  · kernel_rfl
  · kernel_rfl
  · intro us h
    match us, h with
    | [a, b], _ => rfl

theorem V_covers (c : Cx) (hK : c.K = K c.w.params) (KX : (K c.w.params).In c.b) (B : ∀ x : Str, x ≠ "__name__" → c.mb x = bootBuiltins x) : Valid c 1 111 S_covers := by
  refine fn_valid (t := tb nm_Kept_covers [] [(114, "columns")] [] [] []) (S := S06) (body := p_Kept_covers) (vs := [0, 1, 2]) (ps := [0, 1]) (nv := 3) ⟨globs c KX B, (by intro x hx; cases hx), List.forall_mem_cons.mpr ⟨(by rw [hK]; exact A_114_columns _), (by intro x hx; cases hx)⟩, (by intro x hx; cases hx), (by intro x hx; cases hx), (by intro x hx; cases hx)⟩ (KX 111 _ (by k_is)) rfl (codeRec_of KX (by k_is)) ?_ rfl rfl rfl ?_ ?_ ?_ (covers_vc S06)
  · kernel_rfl
  · kernel_rfl
  · kernel_rfl
  · intro us h
    match us, h with
    | [a, b], _ => rfl

theorem V_whole (c : Cx) (hK : c.K = K c.w.params) (KX : (K c.w.params).In c.b) (B : ∀ x : Str, x ≠ "__name__" → c.mb x = bootBuiltins x) : Valid c 1 125 S_whole := by
  refine fn_valid (t := tb nm_law_whole [] [] [] [] []) (S := S06) (body := p_law_whole) (vs := [0]) (ps := [0]) (nv := 1) ⟨globs c KX B, (by intro x hx; cases hx), (by intro x hx; cases hx), (by intro x hx; cases hx), (by intro x hx; cases hx), (by intro x hx; cases hx)⟩ (KX 125 _ (by k_is)) rfl (codeRec_of KX (by k_is)) ?_ rfl rfl rfl ?_ ?_ ?_ (whole_vc S06)
  · kernel_rfl
  · kernel_rfl
  · kernel_rfl
  · intro us h
    match us, h with
    | [a], _ => rfl

theorem V_at (c : Cx) (hK : c.K = K c.w.params) (KX : (K c.w.params).In c.b) (B : ∀ x : Str, x ≠ "__name__" → c.mb x = bootBuiltins x) : Valid c 1 132 S_at := by
  refine fn_valid (t := tb nm_law_at [] [] [] [] []) (S := S06) (body := p_law_at) (vs := [0, 1]) (ps := [0, 1]) (nv := 2) ⟨globs c KX B, (by intro x hx; cases hx), (by intro x hx; cases hx), (by intro x hx; cases hx), (by intro x hx; cases hx), (by intro x hx; cases hx)⟩ (KX 132 _ (by k_is)) rfl (codeRec_of KX (by k_is)) ?_ rfl rfl rfl ?_ ?_ ?_ (at_vc S06)
  · kernel_rfl
  · kernel_rfl
  · kernel_rfl
  · intro us h
    match us, h with
    | [a, b], _ => rfl

theorem V_value (c : Cx) (hK : c.K = K c.w.params) (KX : (K c.w.params).In c.b) (B : ∀ x : Str, x ≠ "__name__" → c.mb x = bootBuiltins x) : Valid c 1 139 S_value := by
  refine fn_valid (t := tb nm_law_value [] [] [] [] []) (S := S06) (body := p_law_value) (vs := [0]) (ps := [0]) (nv := 1) ⟨globs c KX B, (by intro x hx; cases hx), (by intro x hx; cases hx), (by intro x hx; cases hx), (by intro x hx; cases hx), (by intro x hx; cases hx)⟩ (KX 139 _ (by k_is)) rfl (codeRec_of KX (by k_is)) ?_ rfl rfl rfl ?_ ?_ ?_ (value_vc S06)
  · kernel_rfl
  · kernel_rfl
  · kernel_rfl
  · intro us h
    match us, h with
    | [a], _ => rfl

theorem V_row (c : Cx) (hK : c.K = K c.w.params) (KX : (K c.w.params).In c.b) (B : ∀ x : Str, x ≠ "__name__" → c.mb x = bootBuiltins x) : Valid c 2 144 S_row := by
  refine fn_valid (t := tb nm_law_row [16] [] [] [] []) (S := S06) (body := p_law_row) (vs := [0, 1]) (ps := [0, 1]) (nv := 3) ⟨globs c KX B, List.forall_mem_cons.mpr ⟨⟨_, rfl, (V_value c hK KX B).mono (by decide)⟩, (by intro x hx; cases hx)⟩, (by intro x hx; cases hx), (by intro x hx; cases hx), (by intro x hx; cases hx), (by intro x hx; cases hx)⟩ (KX 144 _ (by k_is)) rfl (codeRec_of KX (by k_is)) ?_ rfl rfl rfl ?_ ?_ ?_ (row_vc S06 rfl)
  · kernel_rfl
  · kernel_rfl
  · kernel_rfl
  · intro us h
    match us, h with
    | [a, b], _ => rfl

theorem V_order (c : Cx) (hK : c.K = K c.w.params) (KX : (K c.w.params).In c.b) (B : ∀ x : Str, x ≠ "__name__" → c.mb x = bootBuiltins x) : Valid c 1 151 S_order := by
  refine fn_valid (t := tb nm_law_order [] [] [] [] []) (S := S06) (body := p_law_order) (vs := [0, 1, 2, 3, 4, 5]) (ps := [0, 1]) (nv := 6) ⟨globs c KX B, (by intro x hx; cases hx), (by intro x hx; cases hx), (by intro x hx; cases hx), (by intro x hx; cases hx), (by intro x hx; cases hx)⟩ (KX 151 _ (by k_is)) rfl (codeRec_of KX (by k_is)) ?_ rfl rfl rfl ?_ ?_ ?_ (order_vc S06)
  · kernel_rfl
  · kernel_rfl
  · kernel_rfl
  · intro us h
    match us, h with
    | [a, b], _ => rfl

theorem V_triple (c : Cx) (hK : c.K = K c.w.params) (KX : (K c.w.params).In c.b) (B : ∀ x : Str, x ≠ "__name__" → c.mb x = bootBuiltins x) : Valid c 2 158 S_triple := by
  refine fn_valid (t := tb nm_law_triple [16] [] [] [] []) (S := S06) (body := p_law_triple) (vs := [0, 1, 2, 3, 4, 5, 6, 7]) (ps := [0, 1, 2]) (nv := 8) ⟨globs c KX B, List.forall_mem_cons.mpr ⟨⟨_, rfl, (V_value c hK KX B).mono (by decide)⟩, (by intro x hx; cases hx)⟩, (by intro x hx; cases hx), (by intro x hx; cases hx), (by intro x hx; cases hx), (by intro x hx; cases hx)⟩ (KX 158 _ (by k_is)) rfl (codeRec_of KX (by k_is)) ?_ rfl rfl rfl ?_ ?_ ?_ (triple_vc S06 rfl)
  · kernel_rfl
  · kernel_rfl
  · kernel_rfl
  · intro us h
    match us, h with
    | [a, b, c], _ => rfl

theorem V_ends (c : Cx) (hK : c.K = K c.w.params) (KX : (K c.w.params).In c.b) (B : ∀ x : Str, x ≠ "__name__" → c.mb x = bootBuiltins x) : Valid c 1 165 S_ends := by
  refine fn_valid (t := tb nm_law_ends [] [] [] [] []) (S := S06) (body := p_law_ends) (vs := [0, 1, 2, 3, 4]) (ps := [0, 1]) (nv := 5) ⟨globs c KX B, (by intro x hx; cases hx), (by intro x hx; cases hx), (by intro x hx; cases hx), (by intro x hx; cases hx), (by intro x hx; cases hx)⟩ (KX 165 _ (by k_is)) rfl (codeRec_of KX (by k_is)) ?_ rfl rfl rfl ?_ ?_ ?_ (ends_vc S06)
  · kernel_rfl
  · kernel_rfl
  · kernel_rfl
  · intro us h
    match us, h with
    | [a, b], _ => rfl

theorem V_between (c : Cx) (hK : c.K = K c.w.params) (KX : (K c.w.params).In c.b) (B : ∀ x : Str, x ≠ "__name__" → c.mb x = bootBuiltins x) : Valid c 1 172 S_between := by
  refine fn_valid (t := tb nm_law_between [] [] [] [] []) (S := S06) (body := p_law_between) (vs := [0, 1]) (ps := [0, 1]) (nv := 2) ⟨globs c KX B, (by intro x hx; cases hx), (by intro x hx; cases hx), (by intro x hx; cases hx), (by intro x hx; cases hx), (by intro x hx; cases hx)⟩ (KX 172 _ (by k_is)) rfl (codeRec_of KX (by k_is)) ?_ rfl rfl rfl ?_ ?_ ?_ (between_vc S06)
  · kernel_rfl
  · kernel_rfl
  · kernel_rfl
  · intro us h
    match us, h with
    | [a, b], _ => rfl

theorem V_instr (c : Cx) (hK : c.K = K c.w.params) (KX : (K c.w.params).In c.b) (B : ∀ x : Str, x ≠ "__name__" → c.mb x = bootBuiltins x) : Valid c 2 179 S_instr := by
  refine fn_valid (t := tb nm_law_in_stretch [19, 20] [] [] [] []) (S := S06) (body := p_law_in_stretch) (vs := [0, 1, 2, 3, 4]) (ps := [0, 1, 2]) (nv := 5) ⟨globs c KX B, List.forall_mem_cons.mpr ⟨⟨_, rfl, (V_ends c hK KX B).mono (by decide)⟩, List.forall_mem_cons.mpr ⟨⟨_, rfl, (V_between c hK KX B).mono (by decide)⟩, (by intro x hx; cases hx)⟩⟩, (by intro x hx; cases hx), (by intro x hx; cases hx), (by intro x hx; cases hx), (by intro x hx; cases hx)⟩ (KX 179 _ (by k_is)) rfl (codeRec_of KX (by k_is)) ?_ rfl rfl rfl ?_ ?_ ?_ (instr_vc S06 rfl rfl)
  · kernel_rfl
  · kernel_rfl
  · kernel_rfl
  · intro us h
    match us, h with
    | [a, b, c], _ => rfl

theorem V_ahead (c : Cx) (hK : c.K = K c.w.params) (KX : (K c.w.params).In c.b) (B : ∀ x : Str, x ≠ "__name__" → c.mb x = bootBuiltins x) : Valid c 1 186 S_less := by
  refine fn_valid (t := tb nm_law_ahead [] [] [] [] []) (S := S06) (body := p_law_ahead) (vs := [0, 1, 2]) (ps := [0, 1]) (nv := 3) ⟨globs c KX B, (by intro x hx; cases hx), (by intro x hx; cases hx), (by intro x hx; cases hx), (by intro x hx; cases hx), (by intro x hx; cases hx)⟩ (KX 186 _ (by k_is)) rfl (codeRec_of KX (by k_is)) ?_ rfl rfl rfl ?_ ?_ ?_ (ahead_vc S06)
  · kernel_rfl
  · kernel_rfl
  · kernel_rfl
  · intro us h
    match us, h with
    | [a, b], _ => rfl

theorem V_inord (c : Cx) (hK : c.K = K c.w.params) (KX : (K c.w.params).In c.b) (B : ∀ x : Str, x ≠ "__name__" → c.mb x = bootBuiltins x) : Valid c 2 191 S_inord := by
  refine fn_valid (t := tb nm_law_in_order [21, 22] [] [] [] []) (S := S06) (body := p_law_in_order) (vs := [0, 1, 2, 3, 4, 5]) (ps := [0, 1, 2]) (nv := 7) ⟨globs c KX B, List.forall_mem_cons.mpr ⟨⟨_, rfl, (V_whole c hK KX B).mono (by decide)⟩, List.forall_mem_cons.mpr ⟨⟨_, rfl, (V_ahead c hK KX B).mono (by decide)⟩, (by intro x hx; cases hx)⟩⟩, (by intro x hx; cases hx), (by intro x hx; cases hx), (by intro x hx; cases hx), (by intro x hx; cases hx)⟩ (KX 191 _ (by k_is)) rfl (codeRec_of KX (by k_is)) ?_ rfl rfl rfl ?_ ?_ ?_ (inord_vc S06 rfl rfl)
  · kernel_rfl
  · kernel_rfl
  · kernel_rfl
  · intro us h
    match us, h with
    | [a, b, c], _ => rfl

theorem V_good (c : Cx) (hK : c.K = K c.w.params) (KX : (K c.w.params).In c.b) (B : ∀ x : Str, x ≠ "__name__" → c.mb x = bootBuiltins x) : Valid c 5 196 S_good := by
  refine fn_valid (t := tb nm_law_good [25, 26] [] [] [(114, "covers", 24), (114, "stretch", 23)] []) (S := S06) (body := p_law_good) (vs := [0, 1, 2, 3, 4, 5, 6, 7]) (ps := [0, 1, 2, 3]) (nv := 10) ⟨globs c KX B, List.forall_mem_cons.mpr ⟨⟨_, rfl, (V_instr c hK KX B).mono (by decide)⟩, List.forall_mem_cons.mpr ⟨⟨_, rfl, (V_inord c hK KX B).mono (by decide)⟩, (by intro x hx; cases hx)⟩⟩, (by intro x hx; cases hx), (by intro x hx; cases hx), List.forall_mem_cons.mpr ⟨⟨_, (by rw [hK]; exact M_114_covers _), (V_covers c hK KX B).mono (by decide)⟩, List.forall_mem_cons.mpr ⟨⟨_, (by rw [hK]; exact M_114_stretch _), (V_stretch c hK KX B).mono (by decide)⟩, (by intro x hx; cases hx)⟩⟩, (by intro x hx; cases hx)⟩ (KX 196 _ (by k_is)) rfl (codeRec_of KX (by k_is)) ?_ rfl rfl rfl ?_ ?_ ?_ (good_vc S06 rfl rfl rfl rfl)
  · kernel_rfl
  · kernel_rfl
  · kernel_rfl
  · intro us h
    match us, h with
    | [a, b, c, d], _ => rfl

theorem V_law (c : Cx) (hK : c.K = K c.w.params) (KX : (K c.w.params).In c.b) (B : ∀ x : Str, x ≠ "__name__" → c.mb x = bootBuiltins x) : Valid c 6 201 S_law := by
  refine fn_valid (t := tb nm_law [27, 28, 29, 30, 33] [] [] [(114, "put", 34)] [(114, 31)]) (S := S06) (body := p_law) (vs := [0, 1, 2, 3, 4, 5, 6, 7, 8]) (ps := [0]) (nv := 11) ⟨globs c KX B, List.forall_mem_cons.mpr ⟨⟨_, rfl, (V_at c hK KX B).mono (by decide)⟩, List.forall_mem_cons.mpr ⟨⟨_, rfl, (V_order c hK KX B).mono (by decide)⟩, List.forall_mem_cons.mpr ⟨⟨_, rfl, (V_row c hK KX B).mono (by decide)⟩, List.forall_mem_cons.mpr ⟨⟨_, rfl, (V_triple c hK KX B).mono (by decide)⟩, List.forall_mem_cons.mpr ⟨⟨_, rfl, (V_good c hK KX B).mono (by decide)⟩, (by intro x hx; cases hx)⟩⟩⟩⟩⟩, (by intro x hx; cases hx), (by intro x hx; cases hx), List.forall_mem_cons.mpr ⟨⟨_, (by rw [hK]; exact M_114_put _), (V_put c hK KX B).mono (by decide)⟩, (by intro x hx; cases hx)⟩, List.forall_mem_cons.mpr ⟨⟨_, 1, by decide, (by rw [hK]; exact N_114 _), (V_init c hK KX B).mono (by decide)⟩, (by intro x hx; cases hx)⟩⟩ (KX 201 _ (by k_is)) rfl (codeRec_of KX (by k_is)) ?_ rfl rfl rfl ?_ ?_ ?_ (law_vc)
  · kernel_rfl
  · kernel_rfl
  · kernel_rfl
  · intro us h
    match us, h with
    | [a], _ => rfl

theorem said : PySem.Challenge.rw_uf040016_06.wellSaid = true := by kernel_rfl

end Mine.L06
set_option maxRecDepth 100000 in
set_option maxHeartbeats 8000000 in
theorem PySem.Challenge.cw_uf040016_06_holds : PySem.Challenge.rw_uf040016_06.Holds := by
  w_on
  refine holds_law Mine.L06.said fun said => ?_
  refine holds_open (q := Mine.L06.q) (loose := []) (Xt := fun s => xlAt Mine.L06.q [] s && recOk [] s) (XP := XL Mine.L06.q []) (Yf := Hook.obs Mine.L06.H) (Ya := Hook.val Mine.L06.H) (YP := Hook.says Mine.L06.H) (N := 1363) Mine.L06.left (Hook.of Mine.L06.H) (Hook.keeps Mine.L06.H) (fun s e => xl_of s (Bool.and_eq_true_iff.mp e).1) XL.keeps (by rfl) (by rfl) (by rfl) (fun s e => recFacts_of (Bool.and_eq_true_iff.mp e).2) (by rfl) (by assumption) (by decide +kernel) ⟨rfl, rfl, rfl, rfl, rfl, by decide +kernel⟩ ?hw ?hc
  case hw => w_witness2
  case hc =>
  k_fill
  intro w s₀ s₁ mg mb G Y fa o pm cd doc dV kV ho hd hcd hD hmg hg args vals as hpre hlay hrd hwl hlo
  have KX := kIn_of Y
  refine Ground.open G ?_
  intro T B D TE TW
  
  wrow_args hpre hlay hrd hwl hlo
  refine enter_call ?_
  rename s₁.heap.IsList _ _ => hL
  rename IntsAre _ _ => hI
  rename ¬ ((63 : Nat) : Int) < _ => hm
  have e := (mg_of (n := Str.ofString "law") KX T.g (by k_is)).symm.trans hmg
  cases e
  rename PyData.layable0 _ = true => hY
  refine Mine.law_good (c := ⟨_, w, s₁.heap, mg, mb, T.g, T.b, T.nolimit, Mine.L06.K w.params, KX⟩) (Mine.L06.V_law _ rfl KX T.builtins) rfl ?_ hL hI hg ⟨_, 1048576, rfl, ?_, ?_, by decide, rfl⟩ ?_ ?_
  · exact ⟨rfl, by decide, by decide⟩
  · omega
  · exact fun c hc => Mine.L06.bt_of_bits (Nat.le_trans (PyData.bits_item_of_ints hY hc) (by decide))
  · intro x; rfl
  · wrow_post
