import PyProof.Rows.All
import Wide.All
import OpenK.AllK
import Wide.FinOn
import PySem.Challenge.RW_uf040016_07
section
namespace Mine

section
variable {α : Type} (key : α → Int)

noncomputable def Srt (l : List α) : Prop := l.Pairwise fun x y => key x ≤ key y

variable {key}

theorem srt_app {l m : List α} : Srt key (l ++ m) ↔ Srt key l ∧ Srt key m ∧ ∀ x ∈ l, ∀ y ∈ m, key x ≤ key y := List.pairwise_append

theorem Srt.drop {l : List α} (h : Srt key l) (n : Nat) : Srt key (l.drop n) := List.Pairwise.sublist (List.drop_sublist n l) h
theorem Srt.take {l : List α} (h : Srt key l) (n : Nat) : Srt key (l.take n) := List.Pairwise.sublist (List.take_sublist n l) h

/-- a sorted list: what stands at or behind a place is no less. -/
theorem Srt.le_drop {l : List α} (h : Srt key l) {i : Nat} (hi : i < l.length) {y : α} (hy : y ∈ l.drop i) : key l[i] ≤ key y := by
  rw [List.drop_eq_getElem_cons hi] at hy
  rcases List.mem_cons.mp hy with rfl | hy
  · exact Int.le_refl _
  · have h2 := h.drop i
    rw [List.drop_eq_getElem_cons hi] at h2
    exact (List.pairwise_cons.mp h2).1 y hy

theorem Srt.take_le {l : List α} (h : Srt key l) {i : Nat} (hi : i < l.length) {y : α} (hy : y ∈ l.take (i + 1)) : key y ≤ key l[i] := by
  rw [List.take_succ_eq_append_getElem hi] at hy
  rcases List.mem_append.mp hy with hy | hy
  · have h2 := h.take (i + 1)
    rw [List.take_succ_eq_append_getElem hi] at h2
    exact (srt_app.mp h2).2.2 y hy _ (List.mem_singleton.mpr rfl)
  · rw [List.mem_singleton.mp hy]; exact Int.le_refl _

variable (key)
/-- merging from below: what is out, what is left of either. -/
structure MLo (a b out : List α) (ia ib : Nat) : Prop where
  perm : out.Perm (a.take ia ++ b.take ib)
  sa : Srt key (out ++ a.drop ia)
  sb : Srt key (out ++ b.drop ib)
variable {key}

theorem take_add' (l : List α) (i k : Nat) : l.take (i + k) = l.take i ++ (l.drop i).take k := by
  rw [List.take_add]

theorem MLo.stepA {a b out : List α} {ia ib k : Nat} (h : MLo key a b out ia ib)
    (hle : ∀ x ∈ (a.drop ia).take k, ∀ y ∈ b.drop ib, key x ≤ key y) : MLo key a b (out ++ (a.drop ia).take k) (ia + k) ib := by
  have e : out ++ (a.drop ia).take k ++ a.drop (ia + k) = out ++ a.drop ia := by
    rw [List.append_assoc, show a.drop (ia + k) = (a.drop ia).drop k by rw [List.drop_drop], List.take_append_drop]
  refine ⟨?_, ?_, ?_⟩
  · rw [take_add']
    refine (h.perm.append_right _).trans ?_
    rw [List.append_assoc, List.append_assoc]
    exact List.Perm.append_left _ List.perm_append_comm
  · rw [e]; exact h.sa
  · rw [List.append_assoc]
    obtain ⟨s1, s2, s3⟩ := srt_app.mp h.sb
    have t := h.sa
    rw [← e, List.append_assoc] at t
    obtain ⟨t1, t2, t3⟩ := srt_app.mp t
    obtain ⟨u1, u2, u3⟩ := srt_app.mp t2
    refine srt_app.mpr ⟨s1, srt_app.mpr ⟨u1, s2, hle⟩, fun x hx y hy => ?_⟩
    rcases List.mem_append.mp hy with hy | hy
    · exact t3 x hx y (List.mem_append_left _ hy)
    · exact s3 x hx y hy

theorem MLo.swap {a b out : List α} {ia ib : Nat} (h : MLo key a b out ia ib) : MLo key b a out ib ia :=
  ⟨h.perm.trans List.perm_append_comm, h.sb, h.sa⟩

theorem MLo.stepB {a b out : List α} {ia ib k : Nat} (h : MLo key a b out ia ib)
    (hle : ∀ x ∈ (b.drop ib).take k, ∀ y ∈ a.drop ia, key x ≤ key y) : MLo key a b (out ++ (b.drop ib).take k) ia (ib + k) :=
  (h.swap.stepA hle).swap

variable (key)
structure Merged (a b out : List α) : Prop where
  perm : out.Perm (a ++ b)
  srt : Srt key out
variable {key}

theorem MLo.done {a b out : List α} {ia ib : Nat} (h : MLo key a b out ia ib) (hb : ib = b.length) : Merged key a b (out ++ a.drop ia ++ b.drop ib) := by
  subst hb
  rw [List.drop_length, List.append_nil]
  refine ⟨?_, h.sa⟩
  have := h.perm
  rw [List.take_length] at this
  refine (this.append_right _).trans ?_
  rw [List.append_assoc]
  refine (List.Perm.append_left _ List.perm_append_comm).trans ?_
  rw [← List.append_assoc, List.take_append_drop]

theorem MLo.doneA {a b out : List α} {ia ib : Nat} (h : MLo key a b out ia ib) (ha : ia = a.length) : Merged key a b (out ++ a.drop ia ++ b.drop ib) := by
  have e : out ++ a.drop ia ++ b.drop ib = out ++ b.drop ib ++ a.drop ia := by
    rw [ha, List.drop_length, List.append_nil, List.append_nil]
  rw [e]
  exact ⟨(h.swap.done ha).perm.trans List.perm_append_comm, (h.swap.done ha).srt⟩

theorem MLo.lastOfA {a b out : List α} {ia ib : Nat} (h : MLo key a b out ia ib)
    (hlast : ∀ x ∈ b, ∀ y ∈ a.drop ia, key x ≤ key y) : Merged key a b (out ++ b.drop ib ++ a.drop ia) := by
  refine ⟨?_, ?_⟩
  · refine ((h.perm.append_right _).append_right _).trans ?_
    rw [List.append_assoc (a.take ia), List.take_append_drop, List.append_assoc]
    refine (List.Perm.append_left _ List.perm_append_comm).trans ?_
    rw [← List.append_assoc, List.take_append_drop]
  · obtain ⟨s1, s2, s3⟩ := srt_app.mp h.sa
    refine srt_app.mpr ⟨h.sb, s2, fun x hx y hy => ?_⟩
    rcases List.mem_append.mp hx with hx | hx
    · exact s3 x hx y hy
    · exact hlast x (List.mem_of_mem_drop hx) y hy

variable (key)
/-- merging from above: `r` is the merged end. -/
structure MHi (a b r : List α) (na nb : Nat) : Prop where
  perm : r.Perm (a.drop na ++ b.drop nb)
  sa : Srt key (a.take na ++ r)
  sb : Srt key (b.take nb ++ r)
variable {key}

theorem MHi.swap {a b out : List α} {ia ib : Nat} (h : MHi key a b out ia ib) : MHi key b a out ib ia :=
  ⟨h.perm.trans List.perm_append_comm, h.sb, h.sa⟩

theorem take_le_split (l : List α) {m n : Nat} (h : m ≤ n) : l.take n = l.take m ++ (l.take n).drop m := by
  conv => lhs; rw [← List.take_append_drop m (l.take n)]
  rw [List.take_take, Nat.min_eq_left h]

theorem drop_le_split (l : List α) {m n : Nat} (h : m ≤ n) : l.drop m = (l.take n).drop m ++ l.drop n := by
  have e := List.take_append_drop (n - m) (l.drop m)
  rw [List.drop_drop, show m + (n - m) = n by omega] at e
  rw [← e]; congr 1
  rw [List.drop_take]

theorem MHi.stepA {a b r : List α} {na nb m : Nat} (h : MHi key a b r na nb) (hm : m ≤ na)
    (hle : ∀ x ∈ (a.take na).drop m, ∀ y ∈ b.take nb, key y ≤ key x) : MHi key a b ((a.take na).drop m ++ r) m nb := by
  have e : a.take m ++ ((a.take na).drop m ++ r) = a.take na ++ r := by
    rw [← List.append_assoc, ← take_le_split a hm]
  refine ⟨?_, ?_, ?_⟩
  · rw [drop_le_split a hm, List.append_assoc]
    exact List.Perm.append_left _ h.perm
  · rw [e]; exact h.sa
  · obtain ⟨s1, s2, s3⟩ := srt_app.mp h.sb
    have t := h.sa
    rw [← e] at t
    obtain ⟨t1, t2, t3⟩ := srt_app.mp t
    refine srt_app.mpr ⟨s1, t2, fun x hx y hy => ?_⟩
    rcases List.mem_append.mp hy with hy | hy
    · exact hle y hy x hx
    · exact s3 x hx y hy

theorem MHi.stepB {a b r : List α} {na nb m : Nat} (h : MHi key a b r na nb) (hm : m ≤ nb)
    (hle : ∀ x ∈ (b.take nb).drop m, ∀ y ∈ a.take na, key y ≤ key x) : MHi key a b ((b.take nb).drop m ++ r) na m :=
  (h.swap.stepA hm hle).swap

theorem MHi.done {a b r : List α} {na nb : Nat} (h : MHi key a b r na nb) (hz : na = 0) : Merged key a b (a.take na ++ b.take nb ++ r) := by
  subst hz
  rw [List.take_zero, List.nil_append]
  refine ⟨?_, h.sb⟩
  have := h.perm
  rw [List.drop_zero] at this
  refine (List.Perm.append_left _ this).trans ?_
  refine (List.perm_append_comm).trans ?_
  rw [List.append_assoc]
  refine List.Perm.append_left _ ?_
  refine List.perm_append_comm.trans ?_
  rw [List.take_append_drop]

theorem MHi.doneB {a b r : List α} {na nb : Nat} (h : MHi key a b r na nb) (hz : nb = 0) : Merged key a b (a.take na ++ b.take nb ++ r) := by
  have e : a.take na ++ b.take nb ++ r = b.take nb ++ a.take na ++ r := by
    rw [hz, List.take_zero, List.append_nil, List.nil_append]
  rw [e]
  exact ⟨(h.swap.done hz).perm.trans List.perm_append_comm, (h.swap.done hz).srt⟩

theorem MHi.firstOfB {a b r : List α} {na nb : Nat} (h : MHi key a b r na nb)
    (hfirst : ∀ x ∈ b.take nb, ∀ y ∈ a, key x ≤ key y) : Merged key a b (b.take nb ++ a.take na ++ r) := by
  refine ⟨?_, ?_⟩
  · refine (List.Perm.append_left _ h.perm).trans ?_
    refine List.perm_append_comm.trans ?_
    have e1 : (b.take nb ++ a.take na).Perm (a.take na ++ b.take nb) := List.perm_append_comm
    refine (List.Perm.append_left _ e1).trans ?_
    rw [List.append_assoc, ← List.append_assoc (b.drop nb)]
    refine (List.Perm.append_left _ (List.Perm.append_right _ List.perm_append_comm)).trans ?_
    rw [← List.append_assoc, ← List.append_assoc]
    refine (List.Perm.append_right _ (List.Perm.append_right _ List.perm_append_comm)).trans ?_
    rw [List.take_append_drop, List.append_assoc]
    refine List.Perm.append_left _ ?_
    refine List.perm_append_comm.trans ?_
    rw [List.take_append_drop]
  · rw [List.append_assoc]
    obtain ⟨s1, s2, s3⟩ := srt_app.mp h.sb
    refine srt_app.mpr ⟨s1, h.sa, fun x hx y hy => ?_⟩
    rcases List.mem_append.mp hy with hy | hy
    · exact hfirst x hx y (List.mem_of_mem_take hy)
    · exact s3 x hx y hy

end
end Mine
end
section
namespace Mine
open PySem PyProof PyProof.Rows

noncomputable def ky (p : Keyed) : Int := numOf p.1
noncomputable def IsInt (p : Keyed) : Prop := ∃ n t, p.1 = .int n t

noncomputable def gallop' : Bool → Keyed → Array Keyed → Nat → Nat → Nat → StateT SortSt Sem (Option Nat) := sortPriv% PySem.Builtin.gallop

noncomputable def beyond' (left : Bool) (key : Keyed) (arr : Array Keyed) (base i : Nat) : StateT SortSt Sem (Option Bool) := do
    let x ← elem' arr (base + i)
    if left then lt' x key else return (← lt' key x).map (!·)

noncomputable def bis' (left : Bool) (key : Keyed) (arr : Array Keyed) (base n lo hi : Nat) : StateT SortSt Sem (Option Nat) := do
  let mut lo := lo
  let mut hi := hi
  for _ in [0:n] do
    if lo ≥ hi then break
    let m := lo + (hi - lo) / 2
    let some more ← beyond' left key arr base m | return none
    if more then lo := m + 1 else hi := m
  return some hi
theorem gallop'_eq (left : Bool) (key : Keyed) (arr : Array Keyed) (base n hint : Nat) : gallop' left key arr base n hint = (do
  let some right ← beyond' left key arr base hint | return none
  if right then
    let mut lastofs := 0
    let mut ofs := 1
    for _ in [0:n] do
      if ofs ≥ n - hint then break
      let some more ← beyond' left key arr base (hint + ofs) | return none
      if !more then break
      lastofs := ofs
      ofs := 2 * ofs + 1
    bis' left key arr base n (hint + lastofs + 1) (hint + min ofs (n - hint))
  else
    let mut lastofs := 0
    let mut ofs := 1
    for _ in [0:n] do
      if ofs ≥ hint + 1 then break
      let some found ← beyond' left key arr base (hint - ofs) | return none
      if found then break
      lastofs := ofs
      ofs := 2 * ofs + 1
    bis' left key arr base n (hint + 1 - min ofs (hint + 1)) (hint - lastofs)) := rfl

section
variable {prog : Program} {w : World} {A : Around} {E : Value → Shared → Prop} {s : Shared}

theorem wpS_lt {st : SortSt} {x y : Keyed} {Q : Option Bool → SortSt → Prop} (hk : kindOf st = oneType') (hx : IsInt x) (hy : IsInt y)
    (h : Q (some (decide (ky x < ky y))) st) : wpS (model prog w) A E s (lt' x y) Q st := by
  obtain ⟨n, t, hx⟩ := hx
  obtain ⟨m, u, hy⟩ := hy
  rw [lt'_eq]
  refine wpS_bind (wpS_get ?_)
  rw [hk, keyLt'_oneType, hx, hy]
  refine wpS_bind (wpS_lift (wpAny_attempt (oneLt_int ⟨rfl, ?_⟩)))
  refine wpS_pure ?_
  unfold ky at h
  rw [hx, hy] at h
  exact h

theorem wpS_elem {st : SortSt} {arr : Array Keyed} {i : Nat} {x : Keyed} {Q : Keyed → SortSt → Prop} (hi : arr[i]? = some x) (h : Q x st) :
    wpS (model prog w) A E s (elem' arr i) Q st := by
  rw [elem'_eq, hi]; exact wpS_pure h

noncomputable def Bey (left : Bool) (k : Keyed) (arr : Array Keyed) (base i : Nat) : Prop := if left then K arr (base + i) < ky k else K arr (base + i) ≤ ky k

theorem wpS_beyond {st : SortSt} {left : Bool} {k x : Keyed} {arr : Array Keyed} {base i : Nat} {Q : Option Bool → SortSt → Prop} (hk : kindOf st = oneType')
    (hkey : IsInt k) (hi : arr[base + i]? = some x) (hx : IsInt x) (h1 : Bey left k arr base i → Q (some true) st) (h2 : ¬ Bey left k arr base i → Q (some false) st) :
    wpS (model prog w) A E s (beyond' left k arr base i) Q st := by
  have eK : K arr (base + i) = ky x := by unfold K ky; rw [hi]
  unfold beyond'
  refine wpS_bind (wpS_elem hi ?_)
  unfold Bey at h1 h2
  rw [eK] at h1 h2
  cases left with
  | true =>
    simp only [if_true] at h1 h2 ⊢
    refine wpS_lt hk hx hkey ?_
    by_cases hc : ky x < ky k
    · rw [decide_eq_true hc]; exact h1 hc
    · rw [decide_eq_false hc]; exact h2 hc
  | false =>
    simp only [Bool.false_eq_true, if_false] at h1 h2 ⊢
    refine wpS_bind (wpS_lt hk hkey hx ?_)
    refine wpS_pure ?_
    by_cases hc : ky k < ky x
    · rw [decide_eq_true hc]; exact h2 (by omega)
    · rw [decide_eq_false hc]; exact h1 (by omega)

theorem Bey.anti {left : Bool} {k : Keyed} {arr : Array Keyed} {base n i j : Nat} (hmono : ∀ i j, i ≤ j → j < n → K arr (base + i) ≤ K arr (base + j))
    (hij : i ≤ j) (hj : j < n) (h : Bey left k arr base j) : Bey left k arr base i := by
  unfold Bey at h ⊢
  have hm := hmono i j hij hj
  cases left with
  | true => simp only [if_true] at h ⊢; omega
  | false => simp only [Bool.false_eq_true, if_false] at h ⊢; omega

theorem wpS_bis {st : SortSt} {left : Bool} {k : Keyed} {arr : Array Keyed} {base n lo hi : Nat} {Q : Option Nat → SortSt → Prop} (hk : kindOf st = oneType')
    (hkey : IsInt k) (harr : ∀ i, i < n → ∃ x, arr[base + i]? = some x ∧ IsInt x) (hmono : ∀ i j, i ≤ j → j < n → K arr (base + i) ≤ K arr (base + j)) (hlr : lo ≤ hi) (hrn : hi ≤ n)
    (b1 : ∀ i, i < lo → Bey left k arr base i) (b2 : ∀ i, hi ≤ i → i < n → ¬ Bey left k arr base i)
    (h : ∀ r, r ≤ n → (∀ i, i < r → Bey left k arr base i) → (∀ i, r ≤ i → i < n → ¬ Bey left k arr base i) → Q (some r) st) :
    wpS (model prog w) A E s (bis' left k arr base n lo hi) Q st := by
  unfold bis'
  dsimp only
  refine wpS_bind (wpS_mono (wpS_forRange
    (I := fun x c st2 => st2 = st ∧ c.1 = none ∧ c.2.1 ≤ c.2.2 ∧ c.2.2 ≤ n ∧ c.2.2 - c.2.1 ≤ n - x ∧ (∀ i, i < c.2.1 → Bey left k arr base i) ∧ (∀ i, c.2.2 ≤ i → i < n → ¬ Bey left k arr base i))
    (Q := fun c st2 => st2 = st ∧ c.1 = none ∧ c.2.2 ≤ n ∧ (∀ i, i < c.2.2 → Bey left k arr base i) ∧ (∀ i, c.2.2 ≤ i → i < n → ¬ Bey left k arr base i))
    (fun x c st' _ hx hI => ?_) (fun c st' hI => ⟨hI.1, hI.2.1, hI.2.2.2.1, fun i hi => hI.2.2.2.2.2.1 i (by have := hI.2.2.2.2.1; omega), hI.2.2.2.2.2.2⟩) ⟨rfl, rfl, hlr, hrn, by (try dsimp only); omega, b1, b2⟩) fun c st' hq => ?_)
  · obtain ⟨o, l, r⟩ := c
    obtain ⟨rfl, rfl, hlr, hrn, hm, a1, a2⟩ := hI
    dsimp only at hlr hrn hm a1 a2 ⊢
    by_cases hge : l ≥ r
    · rw [if_pos hge]
      exact wpS_pure ⟨rfl, rfl, hrn, fun i hi => a1 i (Nat.lt_of_lt_of_le hi hge), a2⟩
    · rw [if_neg hge]
      have hmid : l + (r - l) / 2 < n := by omega
      obtain ⟨y, hy, hyi⟩ := harr _ hmid
      refine wpS_bind (wpS_beyond hk hkey hy hyi (fun hb => ?_) fun hb => ?_)
      · exact wpS_pure ⟨rfl, rfl, by (try dsimp only); omega, hrn, by (try dsimp only); omega, fun i hi' => hb.anti hmono (Nat.le_of_lt_succ hi') hmid, a2⟩
      · exact wpS_pure ⟨rfl, rfl, by (try dsimp only); omega, by (try dsimp only); omega, by (try dsimp only); omega, a1, fun i hi1 hi2 hbi => hb (hbi.anti hmono hi1 hi2)⟩
  · obtain ⟨o, l, r⟩ := c
    obtain ⟨rfl, rfl, q1, q2, q3⟩ := hq
    exact wpS_pure (h r q1 q2 q3)

set_option maxHeartbeats 2000000 in
theorem wpS_gallop {st : SortSt} {left : Bool} {k : Keyed} {arr : Array Keyed} {base n hint : Nat} {Q : Option Nat → SortSt → Prop} (hk : kindOf st = oneType')
    (hkey : IsInt k) (harr : ∀ i, i < n → ∃ x, arr[base + i]? = some x ∧ IsInt x) (hmono : ∀ i j, i ≤ j → j < n → K arr (base + i) ≤ K arr (base + j)) (hh : hint < n)
    (h : ∀ r, r ≤ n → (∀ i, i < r → Bey left k arr base i) → (∀ i, r ≤ i → i < n → ¬ Bey left k arr base i) → Q (some r) st) :
    wpS (model prog w) A E s (gallop' left k arr base n hint) Q st := by
  rw [gallop'_eq]
  obtain ⟨y, hy, hyi⟩ := harr hint hh
  refine wpS_bind (wpS_beyond hk hkey hy hyi (fun hb => ?_) fun hb => ?_)
  · refine wpS_bind (wpS_mono (wpS_forRange
      (I := fun x c st' => st' = st ∧ c.1 = none ∧ x + 1 ≤ c.2.2 ∧ c.2.1 < c.2.2 ∧ c.2.1 < n - hint ∧ Bey left k arr base (hint + c.2.1))
      (Q := fun c st' => st' = st ∧ c.1 = none ∧ c.2.1 < c.2.2 ∧ c.2.1 < n - hint ∧ Bey left k arr base (hint + c.2.1) ∧ (∀ i, hint + min c.2.2 (n - hint) ≤ i → i < n → ¬ Bey left k arr base i))
      (fun x c st' _ hx hI => ?_) (fun c st' hI => ⟨hI.1, hI.2.1, hI.2.2.2.1, hI.2.2.2.2.1, hI.2.2.2.2.2, fun i hi1 hi2 => absurd hi1 (by have := hI.2.2.1; omega)⟩) ⟨rfl, rfl, Nat.le_refl _, Nat.one_pos, Nat.sub_pos_of_lt hh, (show Bey left k arr base (hint + 0) from hb)⟩) fun c st' hq => ?_)
    · obtain ⟨o, last, ofs⟩ := c
      obtain ⟨rfl, rfl, h1, h2, h3, h4⟩ := hI
      dsimp only at h1 h2 h3 h4 ⊢
      by_cases hge : ofs ≥ n - hint
      · rw [if_pos hge]
        exact wpS_pure ⟨rfl, rfl, h2, h3, h4, fun i hi1 hi2 => absurd hi1 (by dsimp only; omega)⟩
      · rw [if_neg hge]
        have hin : hint + ofs < n := by omega
        obtain ⟨z, hz, hzi⟩ := harr _ hin
        refine wpS_bind (wpS_beyond hk hkey hz hzi (fun hb2 => ?_) fun hb2 => ?_)
        · exact wpS_pure ⟨rfl, rfl, by (try dsimp only); omega, by (try dsimp only); omega, Nat.lt_of_not_le hge, hb2⟩
        · exact wpS_pure ⟨rfl, rfl, h2, h3, h4, fun i hi1 hi2 hbi => hb2 (hbi.anti hmono (by dsimp only at hi1; omega) hi2)⟩
    · obtain ⟨o, last, ofs⟩ := c
      obtain ⟨rfl, rfl, h2, h3, h4, h5⟩ := hq
      dsimp only at h2 h3 h4 h5 ⊢
      exact wpS_bis hk hkey harr hmono (by omega) (by omega) (fun i hi => h4.anti hmono (Nat.le_of_lt_succ hi) (by omega)) h5 h
  · refine wpS_bind (wpS_mono (wpS_forRange
      (I := fun x c st' => st' = st ∧ c.1 = none ∧ x + 1 ≤ c.2.2 ∧ c.2.1 < c.2.2 ∧ c.2.1 < hint + 1 ∧ ¬ Bey left k arr base (hint - c.2.1))
      (Q := fun c st' => st' = st ∧ c.1 = none ∧ c.2.1 < c.2.2 ∧ c.2.1 < hint + 1 ∧ ¬ Bey left k arr base (hint - c.2.1) ∧ (∀ i, i < hint + 1 - min c.2.2 (hint + 1) → Bey left k arr base i))
      (fun x c st' _ hx hI => ?_) (fun c st' hI => ⟨hI.1, hI.2.1, hI.2.2.2.1, hI.2.2.2.2.1, hI.2.2.2.2.2, fun i hi1 => absurd hi1 (by have := hI.2.2.1; omega)⟩) ⟨rfl, rfl, Nat.le_refl _, Nat.one_pos, Nat.succ_pos _, (show ¬ Bey left k arr base (hint - 0) from hb)⟩) fun c st' hq => ?_)
    · obtain ⟨o, last, ofs⟩ := c
      obtain ⟨rfl, rfl, h1, h2, h3, h4⟩ := hI
      dsimp only at h1 h2 h3 h4 ⊢
      by_cases hge : ofs ≥ hint + 1
      · rw [if_pos hge]
        exact wpS_pure ⟨rfl, rfl, h2, h3, h4, fun i hi1 => absurd hi1 (by dsimp only; omega)⟩
      · rw [if_neg hge]
        have hin : hint - ofs < n := by omega
        obtain ⟨z, hz, hzi⟩ := harr _ hin
        refine wpS_bind (wpS_beyond hk hkey hz hzi (fun hb2 => ?_) fun hb2 => ?_)
        · exact wpS_pure ⟨rfl, rfl, h2, h3, h4, fun i hi1 => hb2.anti hmono (by dsimp only at hi1; omega) hin⟩
        · exact wpS_pure ⟨rfl, rfl, by (try dsimp only); omega, by (try dsimp only); omega, Nat.lt_of_not_le hge, hb2⟩
    · obtain ⟨o, last, ofs⟩ := c
      obtain ⟨rfl, rfl, h2, h3, h4, h5⟩ := hq
      dsimp only at h2 h3 h4 h5 ⊢
      exact wpS_bis hk hkey harr hmono (by omega) (by omega) h5 (fun i hi1 hi2 hbi => h4 (hbi.anti hmono hi1 hi2)) h
end
end Mine
end
section
namespace Mine
open PySem PyProof PyProof.Rows

noncomputable def mergeLo' : Array Keyed → Array Keyed → StateT SortSt Sem (Array Keyed) := sortPriv% PySem.Builtin.mergeLo

noncomputable def setG (st : SortSt) (g : Nat) : SortSt := SortSt.mk' (kindOf st) (arrOf st) (pendingOf st) g (failedOf st)
noncomputable def setMG (g : Nat) : StateT SortSt Sem Unit := modify fun st => setG st g
noncomputable def doneLo (a b out : Array Keyed) (ia ib : Nat) : Array Keyed := out ++ a.extract ia a.size ++ b.extract ib b.size
noncomputable def lastLo (a b out : Array Keyed) (ia ib : Nat) : Array Keyed := out ++ b.extract ib b.size ++ a.extract ia a.size

noncomputable abbrev LoC := Option (Array Keyed) × Array Keyed × Nat × Nat × Nat × Nat × Nat
noncomputable abbrev LoM := StateT SortSt Sem (ForInStep LoC)
noncomputable def loD (a b out : Array Keyed) (ia ib mg ac bc : Nat) : LoM := do
  let x ← elem' a ia
  if ia + 1 + 1 == a.size then pure (.done (some (lastLo a b (out.push x) (ia + 1) ib), out.push x, ia + 1, ib, mg, ac, bc))
  else if ac < 7 && bc < 7 then pure (.done (none, out.push x, ia + 1, ib, mg, ac, bc))
  else pure (.yield (none, out.push x, ia + 1, ib, mg, ac, bc))
noncomputable def loC (a b out : Array Keyed) (ia ib mg ac bc : Nat) : LoM := do
  let x ← elem' b ib
  if ib + 1 == b.size then pure (.done (some (doneLo a b (out.push x) ia (ib + 1)), out.push x, ia, ib + 1, mg, ac, bc))
  else do
    let y ← elem' a ia
    let r ← gallop' true y b (ib + 1) (b.size - (ib + 1)) 0
    match r with
    | some k =>
      if k > 0 then
        if ib + 1 + k == b.size then pure (.done (some (doneLo a b (out.push x ++ b.extract (ib + 1) (ib + 1 + k)) ia (ib + 1 + k)), out.push x ++ b.extract (ib + 1) (ib + 1 + k), ia, ib + 1 + k, mg, ac, k))
        else loD a b (out.push x ++ b.extract (ib + 1) (ib + 1 + k)) ia (ib + 1 + k) mg ac k
      else loD a b (out.push x) ia (ib + 1) mg ac k
    | _ => pure (.done (some (doneLo a b (out.push x) ia (ib + 1)), out.push x, ia, ib + 1, mg, ac, bc))
noncomputable def loB (a b out : Array Keyed) (ia ib mg ac bc : Nat) : LoM := do
  setMG mg
  let x ← elem' b ib
  let r ← gallop' false x a ia (a.size - ia) 0
  match r with
  | some k =>
    if k > 0 then
      if ia + k + 1 == a.size then pure (.done (some (lastLo a b (out ++ a.extract ia (ia + k)) (ia + k) ib), out ++ a.extract ia (ia + k), ia + k, ib, mg, k, bc))
      else if ia + k == a.size then pure (.done (some (doneLo a b (out ++ a.extract ia (ia + k)) (ia + k) ib), out ++ a.extract ia (ia + k), ia + k, ib, mg, k, bc))
      else loC a b (out ++ a.extract ia (ia + k)) (ia + k) ib mg k bc
    else loC a b out ia ib mg k bc
  | _ => pure (.done (some (doneLo a b out ia ib), out, ia, ib, mg, ac, bc))
noncomputable def loA (a b : Array Keyed) (c : LoC) : LoM :=
  if c.2.2.2.2.1 > 1 then loB a b c.2.1 c.2.2.1 c.2.2.2.1 (c.2.2.2.2.1 - 1) c.2.2.2.2.2.1 c.2.2.2.2.2.2
  else loB a b c.2.1 c.2.2.1 c.2.2.2.1 c.2.2.2.2.1 c.2.2.2.2.2.1 c.2.2.2.2.2.2
noncomputable abbrev LoS := Option (Array Keyed) × Array Keyed × Nat × Nat × Nat × Nat
noncomputable def loS (a b : Array Keyed) (mg : Nat) (c : LoS) : StateT SortSt Sem (ForInStep LoS) := do
  let y ← elem' b c.2.2.2.1
  let x ← elem' a c.2.2.1
  let r ← lt' y x
  match r with
  | some w =>
    if w then do
      let z ← elem' b c.2.2.2.1
      if c.2.2.2.1 + 1 == b.size then pure (.done (some (doneLo a b (c.2.1.push z) c.2.2.1 (c.2.2.2.1 + 1)), c.2.1.push z, c.2.2.1, c.2.2.2.1 + 1, 0, c.2.2.2.2.2 + 1))
      else if c.2.2.2.2.2 + 1 ≥ mg then pure (.done (none, c.2.1.push z, c.2.2.1, c.2.2.2.1 + 1, 0, c.2.2.2.2.2 + 1))
      else pure (.yield (none, c.2.1.push z, c.2.2.1, c.2.2.2.1 + 1, 0, c.2.2.2.2.2 + 1))
    else do
      let z ← elem' a c.2.2.1
      if c.2.2.1 + 1 + 1 == a.size then pure (.done (some (lastLo a b (c.2.1.push z) (c.2.2.1 + 1) c.2.2.2.1), c.2.1.push z, c.2.2.1 + 1, c.2.2.2.1, c.2.2.2.2.1 + 1, 0))
      else if c.2.2.2.2.1 + 1 ≥ mg then pure (.done (none, c.2.1.push z, c.2.2.1 + 1, c.2.2.2.1, c.2.2.2.2.1 + 1, 0))
      else pure (.yield (none, c.2.1.push z, c.2.2.1 + 1, c.2.2.2.1, c.2.2.2.2.1 + 1, 0))
  | _ => pure (.done (some (doneLo a b c.2.1 c.2.2.1 c.2.2.2.1), c.2))
noncomputable abbrev LoO := Option (Array Keyed) × Array Keyed × Nat × Nat × Nat
noncomputable def loO (a b : Array Keyed) (c : LoO) : StateT SortSt Sem (ForInStep LoO) := do
  let d ← forIn [0:a.size + b.size] ((none, c.2.1, c.2.2.1, c.2.2.2.1, 0, 0) : LoS) (fun _ d => loS a b c.2.2.2.2 d)
  match d.1 with
  | some r => pure (.done (some r, d.2.1, d.2.2.1, d.2.2.2.1, c.2.2.2.2))
  | none => do
    rule "list.sort.gallop"
    let e ← forIn [0:a.size + b.size] ((none, d.2.1, d.2.2.1, d.2.2.2.1, c.2.2.2.2 + 1, d.2.2.2.2.1, d.2.2.2.2.2) : LoC) (fun _ e => loA a b e)
    match e.1 with
    | some r => pure (.done (some r, e.2.1, e.2.2.1, e.2.2.2.1, e.2.2.2.2.1))
    | none => do
      setMG (e.2.2.2.2.1 + 1)
      pure (.yield (none, e.2.1, e.2.2.1, e.2.2.2.1, e.2.2.2.2.1 + 1))

theorem mergeLo'_eq (a b : Array Keyed) : mergeLo' a b = (do
  rule "list.sort.merge-lo"
  let x ← elem' b 0
  if 1 == b.size then pure (doneLo a b #[x] 0 1)
  else if 0 + 1 == a.size then pure (lastLo a b #[x] 0 1)
  else do
    let st ← get
    let c ← forIn [0:a.size + b.size] ((none, #[x], 0, 1, gallopOf st) : LoO) (fun _ c => loO a b c)
    match c.1 with
    | some r => pure r
    | none => unsupported "internal:list.sort.merge-bound") := by kernel_rfl

theorem arr_get {xs : Array Keyed} {i : Nat} (h : i < xs.size) : xs[i]? = some xs[i] := getElem?_pos xs i h
theorem K_at {xs : Array Keyed} {i : Nat} (h : i < xs.size) : K xs i = ky xs[i] := by unfold K ky; rw [arr_get h]
theorem ext_list (xs : Array Keyed) (i j : Nat) : (xs.extract i j).toList = (xs.toList.drop i).take (j - i) := by
  rw [Array.toList_extract, List.extract_eq_take_drop]
theorem ext_all (xs : Array Keyed) (i : Nat) : (xs.extract i xs.size).toList = xs.toList.drop i := by
  rw [ext_list, List.take_of_length_le (by simp)]
theorem ext_to (xs : Array Keyed) (i : Nat) : (xs.extract 0 i).toList = xs.toList.take i := by
  rw [ext_list, List.drop_zero, Nat.sub_zero]
theorem one_at {xs : Array Keyed} {i : Nat} (h : i < xs.size) : (xs.toList.drop i).take 1 = [xs[i]] := by
  rw [List.drop_eq_getElem_cons (by simpa using h)]; simp

theorem srt_K {xs : Array Keyed} (h : Srt ky xs.toList) {i j : Nat} (hij : i ≤ j) (hj : j < xs.size) : K xs i ≤ K xs j := by
  rw [K_at hj, K_at (by omega)]
  have := h.le_drop (i := i) (by simp; omega) (y := xs[j]) (by
    rw [List.mem_drop_iff_getElem]
    exact ⟨j - i, by simp; omega, by simp only [Array.getElem_toList]; congr 1; omega⟩)
  simpa using this

theorem mem_chunk {xs : Array Keyed} {i r : Nat} {x : Keyed} (h : x ∈ (xs.toList.drop i).take r) : ∃ j, j < r ∧ ∃ hj : i + j < xs.size, x = xs[i + j] := by
  obtain ⟨j, hj, rfl⟩ := List.getElem_of_mem h
  simp only [List.length_take, List.length_drop, Array.length_toList] at hj
  exact ⟨j, by omega, by omega, by simp⟩
theorem mem_rest {xs : Array Keyed} {i : Nat} {x : Keyed} (h : x ∈ xs.toList.drop i) : ∃ j, i ≤ j ∧ ∃ hj : j < xs.size, x = xs[j] := by
  obtain ⟨j, hj, rfl⟩ := List.getElem_of_mem h
  simp only [List.length_drop, Array.length_toList] at hj
  exact ⟨i + j, by omega, by omega, by simp⟩

theorem srt_le_drop {xs : Array Keyed} (h : Srt ky xs.toList) {i : Nat} (hi : i < xs.size) {y : Keyed} (hy : y ∈ xs.toList.drop i) : ky xs[i] ≤ ky y := by
  have := h.le_drop (i := i) (by simpa using hi) hy
  rwa [Array.getElem_toList] at this

theorem isInt_at {xs : Array Keyed} (hx : ∀ x ∈ xs.toList, IsInt x) {i : Nat} (h : i < xs.size) : IsInt xs[i] := hx _ (by simp)

section pure
variable {a b : Array Keyed}

noncomputable def LoI (a b : Array Keyed) (n : Nat) (out : Array Keyed) (ia ib : Nat) : Prop :=
  MLo ky a.toList b.toList out.toList ia ib ∧ ia + 1 < a.size ∧ ib < b.size ∧ n ≤ ia + ib

noncomputable def LoG (a b res : Array Keyed) : Prop := Merged ky a.toList b.toList res.toList

theorem doneLo_list (out : Array Keyed) (ia ib : Nat) : (doneLo a b out ia ib).toList = out.toList ++ a.toList.drop ia ++ b.toList.drop ib := by
  unfold doneLo; rw [Array.toList_append, Array.toList_append, ext_all, ext_all]
theorem lastLo_list (out : Array Keyed) (ia ib : Nat) : (lastLo a b out ia ib).toList = out.toList ++ b.toList.drop ib ++ a.toList.drop ia := by
  unfold lastLo; rw [Array.toList_append, Array.toList_append, ext_all, ext_all]

theorem good_done {out : Array Keyed} {ia ib : Nat} (h : MLo ky a.toList b.toList out.toList ia ib) (hb : ib = b.size) : LoG a b (doneLo a b out ia ib) := by
  unfold LoG; rw [doneLo_list]; exact h.done (by simpa using hb)
theorem good_doneA {out : Array Keyed} {ia ib : Nat} (h : MLo ky a.toList b.toList out.toList ia ib) (ha : ia = a.size) : LoG a b (doneLo a b out ia ib) := by
  unfold LoG; rw [doneLo_list]; exact h.doneA (by simpa using ha)
theorem good_last {out : Array Keyed} {ia ib : Nat} (h : MLo ky a.toList b.toList out.toList ia ib) (ha : ia + 1 = a.size)
    (hlast : ∀ x ∈ b.toList, ∀ y ∈ a.toList.drop (a.size - 1), ky x ≤ ky y) : LoG a b (lastLo a b out ia ib) := by
  unfold LoG; rw [lastLo_list]; exact h.lastOfA (by rw [show ia = a.size - 1 by omega]; exact hlast)

theorem push_B {out : Array Keyed} {ia ib : Nat} (h : MLo ky a.toList b.toList out.toList ia ib) (sa : Srt ky a.toList) (hia : ia < a.size) (hib : ib < b.size) (hle : ky b[ib] ≤ ky a[ia]) :
    MLo ky a.toList b.toList (out.push b[ib]).toList ia (ib + 1) := by
  have := h.stepB (k := 1) (by
    rw [one_at hib]
    intro x hx y hy
    rw [List.mem_singleton.mp hx]
    exact Int.le_trans hle (srt_le_drop sa hia hy))
  rw [one_at hib] at this
  rw [Array.toList_push]; exact this
theorem push_A {out : Array Keyed} {ia ib : Nat} (h : MLo ky a.toList b.toList out.toList ia ib) (sb : Srt ky b.toList) (hia : ia < a.size) (hib : ib < b.size) (hle : ky a[ia] ≤ ky b[ib]) :
    MLo ky a.toList b.toList (out.push a[ia]).toList (ia + 1) ib := by
  have := push_B h.swap sb hib hia hle
  exact this.swap
theorem chunk_A {out : Array Keyed} {ia ib r : Nat} (h : MLo ky a.toList b.toList out.toList ia ib) (sb : Srt ky b.toList) (hib : ib < b.size)
    (hle : ∀ i, i < r → K a (ia + i) ≤ ky b[ib]) : MLo ky a.toList b.toList (out ++ a.extract ia (ia + r)).toList (ia + r) ib := by
  rw [Array.toList_append, ext_list, show ia + r - ia = r by omega]
  refine h.stepA fun x hx y hy => ?_
  obtain ⟨j, hj, hj', rfl⟩ := mem_chunk hx
  have := hle j hj
  rw [K_at hj'] at this
  exact Int.le_trans this (srt_le_drop sb hib hy)
theorem chunk_B {out : Array Keyed} {ia ib r : Nat} (h : MLo ky a.toList b.toList out.toList ia ib) (sa : Srt ky a.toList) (hia : ia < a.size)
    (hle : ∀ i, i < r → K b (ib + i) ≤ ky a[ia]) : MLo ky a.toList b.toList (out ++ b.extract ib (ib + r)).toList ia (ib + r) :=
  (chunk_A h.swap sa hia hle).swap
end pure

section
variable {prog : Program} {w : World} {A : Around} {E : Value → Shared → Prop} {s : Shared}

theorem wpS_setMG {st : SortSt} {g : Nat} {Q : Unit → SortSt → Prop} (h : Q () (setG st g)) : wpS (model prog w) A E s (setMG g) Q st := wpS_modify h
theorem setG_setG (st : SortSt) (g k : Nat) : setG (setG st g) k = setG st k := rfl
theorem kind_setG (st : SortSt) (g : Nat) : kindOf (setG st g) = kindOf st := rfl

theorem wpS_eq {α : Type} {M : Model} {x y : Nat} {m₁ m₂ : StateT SortSt Sem α} {Q : α → SortSt → Prop} {st : SortSt} (h₁ : x = y → wpS M A E s m₁ Q st) (h₂ : ¬ x = y → wpS M A E s m₂ Q st) :
    wpS M A E s (if x == y then m₁ else m₂) Q st := by
  by_cases h : x = y
  · rw [if_pos (by simpa using h)]; exact h₁ h
  · rw [if_neg (by simpa using h)]; exact h₂ h
theorem wpS_if {α : Type} {M : Model} {c : Prop} [Decidable c] {m₁ m₂ : StateT SortSt Sem α} {Q : α → SortSt → Prop} {st : SortSt} (h₁ : c → wpS M A E s m₁ Q st) (h₂ : ¬ c → wpS M A E s m₂ Q st) :
    wpS M A E s (if c then m₁ else m₂) Q st := by
  by_cases h : c
  · rw [if_pos h]; exact h₁ h
  · rw [if_neg h]; exact h₂ h

structure LoX (a b : Array Keyed) : Prop where
  ha : ∀ x ∈ a.toList, IsInt x
  hb : ∀ x ∈ b.toList, IsInt x
  sa : Srt ky a.toList
  sb : Srt ky b.toList
  last : ∀ x ∈ b.toList, ∀ y ∈ a.toList.drop (a.size - 1), ky x ≤ ky y

noncomputable def LoR (a b : Array Keyed) (n : Nat) (r : Option (Array Keyed)) (out : Array Keyed) (ia ib : Nat) : Prop := (∃ res, r = some res ∧ LoG a b res) ∨ (r = none ∧ LoI a b n out ia ib)
noncomputable def LoP (a b : Array Keyed) (st : SortSt) (n : Nat) : ForInStep LoC → SortSt → Prop
  | .done c, st' => ∃ g, st' = setG st g ∧ LoR a b n c.1 c.2.1 c.2.2.1 c.2.2.2.1
  | .yield c, st' => ∃ g, st' = setG st g ∧ c.1 = none ∧ LoI a b n c.2.1 c.2.2.1 c.2.2.2.1

variable {st : SortSt} {a b out : Array Keyed} {ia ib n g : Nat}

theorem loD_ok (X : LoX a b) (hm : MLo ky a.toList b.toList out.toList ia ib) (h1 : ia + 1 < a.size) (h2 : ib < b.size) (h3 : n ≤ ia + ib) (hle : ky (a[ia]'(Nat.lt_of_succ_lt h1)) ≤ ky b[ib]) (mg ac bc : Nat) :
    wpS (model prog w) A E s (loD a b out ia ib mg ac bc) (LoP a b st n) (setG st g) := by
  unfold loD
  refine wpS_bind (wpS_elem (arr_get (Nat.lt_of_succ_lt h1)) ?_)
  have hm' := push_A hm X.sb (Nat.lt_of_succ_lt h1) h2 hle
  refine wpS_eq (fun he => wpS_pure ⟨g, rfl, .inl ⟨_, rfl, good_last hm' he X.last⟩⟩) fun he => ?_
  have hI : LoI a b n _ (ia + 1) ib := ⟨hm', Nat.lt_of_le_of_ne h1 he, h2, Nat.le_trans h3 (Nat.add_le_add_right (Nat.le_succ _) _)⟩
  exact wpS_if (fun _ => wpS_pure ⟨g, rfl, .inr ⟨rfl, hI⟩⟩) fun _ => wpS_pure ⟨g, rfl, rfl, hI⟩

theorem loC_ok (X : LoX a b) (hk : kindOf st = oneType') (hm : MLo ky a.toList b.toList out.toList ia ib) (h1 : ia + 1 < a.size) (h2 : ib < b.size) (h3 : n ≤ ia + ib) (hle : ky b[ib] ≤ ky (a[ia]'(Nat.lt_of_succ_lt h1))) (mg ac bc : Nat) :
    wpS (model prog w) A E s (loC a b out ia ib mg ac bc) (LoP a b st n) (setG st g) := by
  unfold loC
  have hia := Nat.lt_of_succ_lt h1
  refine wpS_bind (wpS_elem (arr_get h2) ?_)
  have hm' := push_B hm X.sa hia h2 hle
  refine wpS_eq (fun he => wpS_pure ⟨g, rfl, .inl ⟨_, rfl, good_done hm' he⟩⟩) fun he => ?_
  have h2' : ib + 1 < b.size := Nat.lt_of_le_of_ne h2 he
  have h3' : n ≤ ia + (ib + 1) := Nat.le_succ_of_le h3
  generalize out.push b[ib] = out at hm' ⊢
  clear hm h3 hle he
  generalize ib + 1 = ib at h2' h3' hm' ⊢
  refine wpS_bind (wpS_elem (arr_get hia) (wpS_bind (wpS_gallop hk (isInt_at X.ha _) (fun i hi => ⟨_, arr_get (Nat.add_lt_of_lt_sub' hi), isInt_at X.hb _⟩) (fun i j hij hj => srt_K X.sb (Nat.add_le_add_left hij _) (Nat.add_lt_of_lt_sub' hj)) (Nat.sub_pos_of_lt h2') fun r hr hr1 hr2 => ?_)))
  refine wpS_if (fun hr0 => ?_) fun hr0 => ?_
  · have hm3 := chunk_B (r := r) hm' X.sa hia (fun i hi => Int.le_of_lt (hr1 i hi))
    refine wpS_eq (fun he => wpS_pure ⟨g, rfl, .inl ⟨_, rfl, good_done hm3 he⟩⟩) fun he => ?_
    have h4 : ib + r < b.size := Nat.lt_of_le_of_ne (Nat.add_le_of_le_sub' (Nat.le_of_lt h2') hr) he
    have hx := hr2 r (Nat.le_refl _) (Nat.lt_sub_iff_add_lt'.mpr h4)
    exact loD_ok X hm3 h1 h4 (Nat.le_trans h3' (Nat.add_le_add_left (Nat.le_add_right _ _) _)) (by rw [← K_at h4]; exact Int.not_lt.mp hx) _ _ _
  · have hx := hr2 0 (Nat.not_lt.mp hr0) (Nat.sub_pos_of_lt h2')
    exact loD_ok X hm' h1 h2' h3' (by rw [← K_at h2']; exact Int.not_lt.mp hx) _ _ _

theorem loB_ok (X : LoX a b) (hk : kindOf st = oneType') (hI : LoI a b n out ia ib) (mg ac bc : Nat) :
    wpS (model prog w) A E s (loB a b out ia ib mg ac bc) (LoP a b st n) (setG st g) := by
  obtain ⟨hm, h1, h2, h3⟩ := hI
  unfold loB
  have hia := Nat.lt_of_succ_lt h1
  refine wpS_bind (wpS_setMG (wpS_bind (wpS_elem (arr_get h2) (wpS_bind (wpS_gallop hk (isInt_at X.hb _) (fun i hi => ⟨_, arr_get (Nat.add_lt_of_lt_sub' hi), isInt_at X.ha _⟩) (fun i j hij hj => srt_K X.sa (Nat.add_le_add_left hij _) (Nat.add_lt_of_lt_sub' hj)) (Nat.sub_pos_of_lt hia) fun r hr hr1 hr2 => ?_)))))
  refine wpS_if (fun hr0 => ?_) fun hr0 => ?_
  · have hm1 := chunk_A (r := r) hm X.sb h2 hr1
    refine wpS_eq (fun he => wpS_pure ⟨_, rfl, .inl ⟨_, rfl, good_last hm1 he X.last⟩⟩) fun he => ?_
    refine wpS_eq (fun he => wpS_pure ⟨_, rfl, .inl ⟨_, rfl, good_doneA hm1 he⟩⟩) fun he2 => ?_
    have h4 : ia + r < a.size := Nat.lt_of_le_of_ne (Nat.add_le_of_le_sub' (Nat.le_of_lt hia) hr) he2
    have hx := hr2 r (Nat.le_refl _) (Nat.lt_sub_iff_add_lt'.mpr h4)
    exact loC_ok X hk hm1 (Nat.lt_of_le_of_ne h4 he) h2 (Nat.le_trans h3 (Nat.add_le_add_right (Nat.le_add_right _ _) _)) (by rw [← K_at h4]; exact Int.le_of_lt (Int.not_le.mp hx)) _ _ _
  · have hx := hr2 0 (Nat.not_lt.mp hr0) (Nat.sub_pos_of_lt hia)
    exact loC_ok X hk hm h1 h2 h3 (by rw [← K_at hia]; exact Int.le_of_lt (Int.not_le.mp hx)) _ _ _

theorem loS_ok (X : LoX a b) (hk : kindOf st = oneType') {c : LoS} (hI : LoI a b n c.2.1 c.2.2.1 c.2.2.2.1) (mg : Nat) :
    wpS (model prog w) A E s (loS a b mg c) (fun r st' => match r with
      | .done c' => st' = st ∧ LoR a b (n + 1) c'.1 c'.2.1 c'.2.2.1 c'.2.2.2.1
      | .yield c' => st' = st ∧ c'.1 = none ∧ LoI a b (n + 1) c'.2.1 c'.2.2.1 c'.2.2.2.1) st := by
  obtain ⟨hm, h1, h2, h3⟩ := hI
  unfold loS
  have hia := Nat.lt_of_succ_lt h1
  refine wpS_bind (wpS_elem (arr_get h2) (wpS_bind (wpS_elem (arr_get hia) (wpS_bind (wpS_lt hk (isInt_at X.hb _) (isInt_at X.ha _) ?_)))))
  refine wpS_if (fun hw => wpS_bind (wpS_elem (arr_get h2) ?_)) fun hw => wpS_bind (wpS_elem (arr_get hia) ?_)
  · have hm2 := push_B hm X.sa hia h2 (Int.le_of_lt (of_decide_eq_true hw))
    refine wpS_eq (fun he => wpS_pure ⟨rfl, .inl ⟨_, rfl, good_done hm2 he⟩⟩) fun he => ?_
    have hI : LoI a b (n + 1) _ _ _ := ⟨hm2, h1, Nat.lt_of_le_of_ne h2 he, Nat.succ_le_succ h3⟩
    exact wpS_if (fun _ => wpS_pure ⟨rfl, .inr ⟨rfl, hI⟩⟩) fun _ => wpS_pure ⟨rfl, rfl, hI⟩
  · have hm2 := push_A hm X.sb hia h2 (Int.not_lt.mp (fun q => hw (decide_eq_true q)))
    refine wpS_eq (fun he => wpS_pure ⟨rfl, .inl ⟨_, rfl, good_last hm2 he X.last⟩⟩) fun he => ?_
    have hI : LoI a b (n + 1) _ _ _ := ⟨hm2, Nat.lt_of_le_of_ne h1 he, h2, by rw [Nat.add_right_comm]; exact Nat.succ_le_succ h3⟩
    exact wpS_if (fun _ => wpS_pure ⟨rfl, .inr ⟨rfl, hI⟩⟩) fun _ => wpS_pure ⟨rfl, rfl, hI⟩

theorem LoI.mono {m : Nat} (h : LoI a b n out ia ib) (hm : m ≤ n) : LoI a b m out ia ib := ⟨h.1, h.2.1, h.2.2.1, Nat.le_trans hm h.2.2.2⟩
theorem LoI.end_ (h : LoI a b n out ia ib) (hn : a.size + b.size ≤ n) : False := Nat.not_lt.mpr (Nat.le_trans hn h.2.2.2) (Nat.add_lt_add (Nat.lt_of_succ_lt h.2.1) h.2.2.1)

theorem loO_ok (X : LoX a b) (hk : kindOf st = oneType') {c : LoO} (hI : LoI a b n c.2.1 c.2.2.1 c.2.2.2.1) :
    wpS (model prog w) A E s (loO a b c) (fun r st' => match r with
      | .done c' => ∃ g res, st' = setG st g ∧ c'.1 = some res ∧ LoG a b res
      | .yield c' => ∃ g, st' = setG st g ∧ c'.1 = none ∧ LoI a b (n + 1) c'.2.1 c'.2.2.1 c'.2.2.2.1) (setG st g) := by
  unfold loO
  refine wpS_bind (wpS_mono (wpS_forRange
    (I := fun y d st' => st' = setG st g ∧ d.1 = none ∧ LoI a b (n + y) d.2.1 d.2.2.1 d.2.2.2.1)
    (Q := fun d st' => st' = setG st g ∧ LoR a b (n + 1) d.1 d.2.1 d.2.2.1 d.2.2.2.1)
    (fun y d st' _ _ h => ?_) (fun d st' h => ?_) ⟨rfl, rfl, hI⟩) fun d st' h => ?_)
  · obtain ⟨rfl, _, h⟩ := h
    refine wpS_mono (loS_ok (st := setG st g) X hk h _) fun r st' h' => ?_
    cases r with
    | done c' => exact ⟨h'.1, h'.2.imp id fun q => ⟨q.1, q.2.mono (Nat.succ_le_succ (Nat.le_add_right _ _))⟩⟩
    | yield c' => exact h'
  · exact (h.2.2.end_ (Nat.le_trans (Nat.le_max_right _ _) (Nat.le_add_left _ _))).elim
  · obtain ⟨rfl, h⟩ := h
    rcases h with ⟨res, e, hg⟩ | ⟨e, h⟩
    · rw [e]; exact wpS_pure ⟨g, res, rfl, rfl, hg⟩
    rw [e]
    refine wpS_bind (wpS_lift (wpAny_rule ⟨rfl, ?_⟩))
    refine wpS_bind (wpS_mono (wpS_forRange
      (I := fun _ d st' => ∃ g, st' = setG st g ∧ d.1 = none ∧ LoI a b (n + 1) d.2.1 d.2.2.1 d.2.2.2.1)
      (Q := fun d st' => ∃ g, st' = setG st g ∧ LoR a b (n + 1) d.1 d.2.1 d.2.2.1 d.2.2.2.1)
      (fun y d st' _ _ h => ?_) (fun d st' h => ?_) ⟨g, rfl, rfl, h⟩) fun d st' h => ?_)
    · obtain ⟨g, rfl, _, h⟩ := h
      have k := fun mg => loB_ok (prog := prog) (w := w) (A := A) (E := E) (s := s) (st := st) (g := g) X hk h mg d.2.2.2.2.2.1 d.2.2.2.2.2.2
      refine wpS_mono (Q := LoP a b st (n + 1)) (wpS_if (fun _ => k _) fun _ => k _) fun r st' h' => ?_
      cases r <;> exact h'
    · obtain ⟨g, h⟩ := h; exact ⟨g, h.1, .inr h.2⟩
    · obtain ⟨g, rfl, h⟩ := h
      rcases h with ⟨res, e, hg⟩ | ⟨e, h⟩
      · rw [e]; exact wpS_pure ⟨g, res, rfl, rfl, hg⟩
      · rw [e]
        exact wpS_bind (wpS_setMG (wpS_pure ⟨_, rfl, rfl, h⟩))

theorem wpS_mergeLo {Q : Array Keyed → SortSt → Prop} (hk : kindOf st = oneType') (ha : ∀ x ∈ a.toList, IsInt x) (hb : ∀ x ∈ b.toList, IsInt x)
    (sa : Srt ky a.toList) (sb : Srt ky b.toList) (na : 0 < a.size) (nb : 0 < b.size)
    (hfirst : ky b[0] ≤ ky a[0]) (hlast : ∀ x ∈ b.toList, ∀ y ∈ a.toList.drop (a.size - 1), ky x ≤ ky y)
    (h : ∀ out g, LoG a b out → Q out (setG st g)) : wpS (model prog w) A E s (mergeLo' a b) Q st := by
  rw [mergeLo'_eq]
  refine wpS_bind (wpS_lift (wpAny_rule ⟨rfl, wpS_bind (wpS_elem (arr_get nb) ?_)⟩))
  have m0 : MLo ky a.toList b.toList (#[] : Array Keyed).toList 0 0 := ⟨List.Perm.nil, sa, sb⟩
  have m1 : MLo ky a.toList b.toList (#[b[0]] : Array Keyed).toList 0 1 := push_B m0 sa na nb hfirst
  refine wpS_eq (fun he => wpS_pure (h _ (gallopOf st) (good_done m1 he))) fun hb1 => ?_
  refine wpS_eq (fun he => wpS_pure (h _ (gallopOf st) (good_last m1 he hlast))) fun ha1 => ?_
  refine wpS_bind (wpS_get (wpS_bind (wpS_mono (wpS_forRange
    (I := fun x c st' => ∃ g, st' = setG st g ∧ c.1 = none ∧ LoI a b (x + 1) c.2.1 c.2.2.1 c.2.2.2.1)
    (Q := fun c st' => ∃ g res, st' = setG st g ∧ c.1 = some res ∧ LoG a b res)
    (fun x c st' _ _ h => ?_) (fun c st' h => ?_) ⟨gallopOf st, rfl, rfl, m1, Nat.lt_of_le_of_ne na ha1, Nat.lt_of_le_of_ne nb hb1, Nat.le_refl _⟩) fun c st' h' => ?_)))
  · obtain ⟨g, rfl, _, h⟩ := h
    refine wpS_mono (loO_ok (g := g) ⟨ha, hb, sa, sb, hlast⟩ hk h) fun r st' h' => ?_
    cases r <;> exact h'
  · obtain ⟨g, rfl, _, h⟩ := h
    exact (h.end_ (Nat.le_trans (Nat.le_max_right _ _) (Nat.le_succ _))).elim
  · obtain ⟨g, res, rfl, e, hg⟩ := h'
    rw [e]; exact wpS_pure (h _ _ hg)
end
end Mine
end
section
namespace Mine
open PySem PyProof PyProof.Rows

noncomputable def mergeHi' : Array Keyed → Array Keyed → StateT SortSt Sem (Array Keyed) := sortPriv% PySem.Builtin.mergeHi

noncomputable def doneHi (a b out : Array Keyed) (na nb : Nat) : Array Keyed := a.extract 0 na ++ b.extract 0 nb ++ out.reverse
noncomputable def firstHi (a b out : Array Keyed) (na nb : Nat) : Array Keyed := b.extract 0 nb ++ a.extract 0 na ++ out.reverse

noncomputable abbrev HiC := Option (Array Keyed) × Nat × Nat × Array Keyed × Nat × Nat × Nat
noncomputable abbrev HiMo := StateT SortSt Sem (ForInStep HiC)
noncomputable def hiD (a b out : Array Keyed) (na nb mg ac bc : Nat) : HiMo := do
  let x ← elem' a (na - 1)
  if na - 1 == 0 then pure (.done (some (doneHi a b (out.push x) (na - 1) nb), na - 1, nb, out.push x, mg, ac, bc))
  else if ac < 7 && bc < 7 then pure (.done (none, na - 1, nb, out.push x, mg, ac, bc))
  else pure (.yield (none, na - 1, nb, out.push x, mg, ac, bc))
noncomputable def hiC (a b out : Array Keyed) (na nb mg ac bc : Nat) : HiMo := do
  let x ← elem' b (nb - 1)
  if nb - 1 == 1 then pure (.done (some (firstHi a b (out.push x) na (nb - 1)), na, nb - 1, out.push x, mg, ac, bc))
  else do
    let y ← elem' a (na - 1)
    let r ← gallop' true y b 0 (nb - 1) (nb - 1 - 1)
    match r with
    | some k =>
      if nb - 1 - k > 0 then
        if k == 1 then pure (.done (some (firstHi a b (out.push x ++ (b.extract k (nb - 1)).reverse) na k), na, k, out.push x ++ (b.extract k (nb - 1)).reverse, mg, ac, nb - 1 - k))
        else if k == 0 then pure (.done (some (doneHi a b (out.push x ++ (b.extract k (nb - 1)).reverse) na k), na, k, out.push x ++ (b.extract k (nb - 1)).reverse, mg, ac, nb - 1 - k))
        else hiD a b (out.push x ++ (b.extract k (nb - 1)).reverse) na k mg ac (nb - 1 - k)
      else hiD a b (out.push x) na (nb - 1) mg ac (nb - 1 - k)
    | _ => pure (.done (some (doneHi a b (out.push x) na (nb - 1)), na, nb - 1, out.push x, mg, ac, bc))
noncomputable def hiB (a b out : Array Keyed) (na nb mg ac bc : Nat) : HiMo := do
  setMG mg
  let x ← elem' b (nb - 1)
  let r ← gallop' false x a 0 na (na - 1)
  match r with
  | some k =>
    if na - k > 0 then
      if k == 0 then pure (.done (some (doneHi a b (out ++ (a.extract k na).reverse) k nb), k, nb, out ++ (a.extract k na).reverse, mg, na - k, bc))
      else hiC a b (out ++ (a.extract k na).reverse) k nb mg (na - k) bc
    else hiC a b out na nb mg (na - k) bc
  | _ => pure (.done (some (doneHi a b out na nb), na, nb, out, mg, ac, bc))
noncomputable def hiA (a b : Array Keyed) (c : HiC) : HiMo :=
  if c.2.2.2.2.1 > 1 then hiB a b c.2.2.2.1 c.2.1 c.2.2.1 (c.2.2.2.2.1 - 1) c.2.2.2.2.2.1 c.2.2.2.2.2.2
  else hiB a b c.2.2.2.1 c.2.1 c.2.2.1 c.2.2.2.2.1 c.2.2.2.2.2.1 c.2.2.2.2.2.2
noncomputable abbrev HiS := Option (Array Keyed) × Nat × Nat × Array Keyed × Nat × Nat
noncomputable def hiS (a b : Array Keyed) (mg : Nat) (c : HiS) : StateT SortSt Sem (ForInStep HiS) := do
  let y ← elem' b (c.2.2.1 - 1)
  let x ← elem' a (c.2.1 - 1)
  let r ← lt' y x
  match r with
  | some w =>
    if w then do
      let z ← elem' a (c.2.1 - 1)
      if c.2.1 - 1 == 0 then pure (.done (some (doneHi a b (c.2.2.2.1.push z) (c.2.1 - 1) c.2.2.1), c.2.1 - 1, c.2.2.1, c.2.2.2.1.push z, c.2.2.2.2.1 + 1, 0))
      else if c.2.2.2.2.1 + 1 ≥ mg then pure (.done (none, c.2.1 - 1, c.2.2.1, c.2.2.2.1.push z, c.2.2.2.2.1 + 1, 0))
      else pure (.yield (none, c.2.1 - 1, c.2.2.1, c.2.2.2.1.push z, c.2.2.2.2.1 + 1, 0))
    else do
      let z ← elem' b (c.2.2.1 - 1)
      if c.2.2.1 - 1 == 1 then pure (.done (some (firstHi a b (c.2.2.2.1.push z) c.2.1 (c.2.2.1 - 1)), c.2.1, c.2.2.1 - 1, c.2.2.2.1.push z, 0, c.2.2.2.2.2 + 1))
      else if c.2.2.2.2.2 + 1 ≥ mg then pure (.done (none, c.2.1, c.2.2.1 - 1, c.2.2.2.1.push z, 0, c.2.2.2.2.2 + 1))
      else pure (.yield (none, c.2.1, c.2.2.1 - 1, c.2.2.2.1.push z, 0, c.2.2.2.2.2 + 1))
  | _ => pure (.done (some (doneHi a b c.2.2.2.1 c.2.1 c.2.2.1), c.2))
noncomputable abbrev HiO := Option (Array Keyed) × Nat × Nat × Array Keyed × Nat
noncomputable def hiO (a b : Array Keyed) (c : HiO) : StateT SortSt Sem (ForInStep HiO) := do
  let d ← forIn [0:a.size + b.size] ((none, c.2.1, c.2.2.1, c.2.2.2.1, 0, 0) : HiS) (fun _ d => hiS a b c.2.2.2.2 d)
  match d.1 with
  | some r => pure (.done (some r, d.2.1, d.2.2.1, d.2.2.2.1, c.2.2.2.2))
  | none => do
    rule "list.sort.gallop"
    let e ← forIn [0:a.size + b.size] ((none, d.2.1, d.2.2.1, d.2.2.2.1, c.2.2.2.2 + 1, d.2.2.2.2.1, d.2.2.2.2.2) : HiC) (fun _ e => hiA a b e)
    match e.1 with
    | some r => pure (.done (some r, e.2.1, e.2.2.1, e.2.2.2.1, e.2.2.2.2.1))
    | none => do
      setMG (e.2.2.2.2.1 + 1)
      pure (.yield (none, e.2.1, e.2.2.1, e.2.2.2.1, e.2.2.2.2.1 + 1))

theorem mergeHi'_eq (a b : Array Keyed) : mergeHi' a b = (do
  rule "list.sort.merge-hi"
  let x ← elem' a (a.size - 1)
  if a.size - 1 == 0 then pure (doneHi a b #[x] (a.size - 1) b.size)
  else if b.size == 1 then pure (firstHi a b #[x] (a.size - 1) b.size)
  else do
    let st ← get
    let c ← forIn [0:a.size + b.size] ((none, a.size - 1, b.size, #[x], gallopOf st) : HiO) (fun _ c => hiO a b c)
    match c.1 with
    | some r => pure r
    | none => unsupported "internal:list.sort.merge-bound") := by kernel_rfl

section pure
variable {a b : Array Keyed}

noncomputable def HiM (a b out : Array Keyed) (na nb : Nat) : Prop := MHi ky a.toList b.toList out.toList.reverse na nb
noncomputable def HiI (a b : Array Keyed) (n : Nat) (out : Array Keyed) (na nb : Nat) : Prop :=
  HiM a b out na nb ∧ 0 < na ∧ na ≤ a.size ∧ 1 < nb ∧ nb ≤ b.size ∧ n + na + nb ≤ a.size + b.size

theorem doneHi_list (out : Array Keyed) (na nb : Nat) : (doneHi a b out na nb).toList = a.toList.take na ++ b.toList.take nb ++ out.toList.reverse := by
  unfold doneHi; rw [Array.toList_append, Array.toList_append, ext_to, ext_to, Array.toList_reverse]
theorem firstHi_list (out : Array Keyed) (na nb : Nat) : (firstHi a b out na nb).toList = b.toList.take nb ++ a.toList.take na ++ out.toList.reverse := by
  unfold firstHi; rw [Array.toList_append, Array.toList_append, ext_to, ext_to, Array.toList_reverse]

theorem goodH_done {out : Array Keyed} {na nb : Nat} (h : HiM a b out na nb) (hz : na = 0) : LoG a b (doneHi a b out na nb) := by
  unfold LoG; rw [doneHi_list]; exact h.done hz
theorem goodH_doneB {out : Array Keyed} {na nb : Nat} (h : HiM a b out na nb) (hz : nb = 0) : LoG a b (doneHi a b out na nb) := by
  unfold LoG; rw [doneHi_list]; exact h.doneB hz
theorem goodH_first {out : Array Keyed} {na nb : Nat} (h : HiM a b out na nb) (hz : nb = 1)
    (hfirst : ∀ x ∈ b.toList.take 1, ∀ y ∈ a.toList, ky x ≤ ky y) : LoG a b (firstHi a b out na nb) := by
  unfold LoG; rw [firstHi_list]; subst hz; exact h.firstOfB hfirst

theorem srt_take_le {xs : Array Keyed} (h : Srt ky xs.toList) {i : Nat} (hi : i < xs.size) {y : Keyed} (hy : y ∈ xs.toList.take (i + 1)) : ky y ≤ ky xs[i] := by
  have := h.take_le (i := i) (by simpa using hi) hy
  rwa [Array.getElem_toList] at this
theorem last_one {xs : Array Keyed} {i : Nat} (h : i < xs.size) : (xs.toList.take (i + 1)).drop i = [xs[i]] := by
  rw [List.drop_take, show i + 1 - i = 1 by omega, one_at h]
theorem mem_mid {xs : Array Keyed} {m n : Nat} {x : Keyed} (h : x ∈ (xs.toList.take n).drop m) : ∃ j, m ≤ j ∧ j < n ∧ ∃ hj : j < xs.size, x = xs[j] := by
  rw [List.drop_take] at h
  obtain ⟨j, hj, hj', rfl⟩ := mem_chunk h
  exact ⟨m + j, by omega, by omega, hj', rfl⟩

theorem HiM.swap {out : Array Keyed} {na nb : Nat} (h : HiM a b out na nb) : HiM b a out nb na := MHi.swap h

theorem pushH_A {out : Array Keyed} {na nb : Nat} (h : HiM a b out (na + 1) (nb + 1)) (sb : Srt ky b.toList) (hna : na < a.size) (hnb : nb < b.size) (hle : ky b[nb] ≤ ky a[na]) :
    HiM a b (out.push a[na]) na (nb + 1) := by
  have := MHi.stepA h (m := na) (by omega) (by
    rw [last_one hna]
    intro x hx y hy
    rw [List.mem_singleton.mp hx]
    exact Int.le_trans (srt_take_le sb hnb hy) hle)
  rw [last_one hna] at this
  unfold HiM
  rw [Array.toList_push, List.reverse_append, List.reverse_singleton]
  exact this
theorem pushH_B {out : Array Keyed} {na nb : Nat} (h : HiM a b out (na + 1) (nb + 1)) (sa : Srt ky a.toList) (hna : na < a.size) (hnb : nb < b.size) (hle : ky a[na] ≤ ky b[nb]) :
    HiM a b (out.push b[nb]) (na + 1) nb := (pushH_A h.swap sa hnb hna hle).swap
theorem chunkH_A {out : Array Keyed} {na nb m : Nat} (h : HiM a b out na (nb + 1)) (sb : Srt ky b.toList) (hnb : nb < b.size) (hm : m ≤ na)
    (hle : ∀ i, m ≤ i → i < na → ky b[nb] ≤ K a i) : HiM a b (out ++ (a.extract m na).reverse) m (nb + 1) := by
  have := MHi.stepA h hm (by
    intro x hx y hy
    obtain ⟨j, hj1, hj2, hj3, rfl⟩ := mem_mid hx
    have := hle j hj1 hj2
    rw [K_at hj3] at this
    exact Int.le_trans (srt_take_le sb hnb hy) this)
  unfold HiM
  rw [Array.toList_append, Array.toList_reverse, List.reverse_append, List.reverse_reverse, ext_list, ← List.drop_take]
  exact this
theorem chunkH_B {out : Array Keyed} {na nb m : Nat} (h : HiM a b out (na + 1) nb) (sa : Srt ky a.toList) (hna : na < a.size) (hm : m ≤ nb)
    (hle : ∀ i, m ≤ i → i < nb → ky a[na] ≤ K b i) : HiM a b (out ++ (b.extract m nb).reverse) (na + 1) m := (chunkH_A h.swap sa hna hm hle).swap
end pure

section
variable {prog : Program} {w : World} {A : Around} {E : Value → Shared → Prop} {s : Shared}

structure HiX (a b : Array Keyed) : Prop where
  ha : ∀ x ∈ a.toList, IsInt x
  hb : ∀ x ∈ b.toList, IsInt x
  sa : Srt ky a.toList
  sb : Srt ky b.toList
  first : ∀ x ∈ b.toList.take 1, ∀ y ∈ a.toList, ky x ≤ ky y

noncomputable def HiR (a b : Array Keyed) (n : Nat) (r : Option (Array Keyed)) (na nb : Nat) (out : Array Keyed) : Prop := (∃ res, r = some res ∧ LoG a b res) ∨ (r = none ∧ HiI a b n out na nb)
noncomputable def HiP (a b : Array Keyed) (st : SortSt) (n : Nat) : ForInStep HiC → SortSt → Prop
  | .done c, st' => ∃ g, st' = setG st g ∧ HiR a b n c.1 c.2.1 c.2.2.1 c.2.2.2.1
  | .yield c, st' => ∃ g, st' = setG st g ∧ c.1 = none ∧ HiI a b n c.2.2.2.1 c.2.1 c.2.2.1

variable {st : SortSt} {a b out : Array Keyed} {na nb n g : Nat}

theorem hiD_ok (X : HiX a b) (hm : HiM a b out (na + 1) (nb + 1)) (hna : na < a.size) (hnb : nb < b.size) (h1 : 0 < nb) (hle : ky b[nb] ≤ ky a[na]) (h3 : n + na + (nb + 1) ≤ a.size + b.size) (mg ac bc : Nat) :
    wpS (model prog w) A E s (hiD a b out (na + 1) (nb + 1) mg ac bc) (HiP a b st n) (setG st g) := by
  unfold hiD
  refine wpS_bind (wpS_elem (arr_get hna) ?_)
  have hm' := pushH_A hm X.sb hna hnb hle
  refine wpS_eq (fun he => wpS_pure ⟨g, rfl, .inl ⟨_, rfl, goodH_done hm' he⟩⟩) fun he => ?_
  have hI : HiI a b n _ na (nb + 1) := ⟨hm', Nat.pos_of_ne_zero he, Nat.le_of_lt hna, Nat.succ_lt_succ h1, hnb, h3⟩
  exact wpS_if (fun _ => wpS_pure ⟨g, rfl, .inr ⟨rfl, hI⟩⟩) fun _ => wpS_pure ⟨g, rfl, rfl, hI⟩

theorem mono0 {xs : Array Keyed} (h : Srt ky xs.toList) {m : Nat} (hm : m ≤ xs.size) (i j : Nat) (hij : i ≤ j) (hj : j < m) : K xs (0 + i) ≤ K xs (0 + j) := by
  rw [Nat.zero_add, Nat.zero_add]; exact srt_K h hij (Nat.lt_of_lt_of_le hj hm)
theorem arr0 {xs : Array Keyed} (h : ∀ x ∈ xs.toList, IsInt x) {m : Nat} (hm : m ≤ xs.size) (i : Nat) (hi : i < m) : ∃ x, xs[0 + i]? = some x ∧ IsInt x :=
  ⟨_, by rw [Nat.zero_add]; exact arr_get (Nat.lt_of_lt_of_le hi hm), isInt_at h _⟩

theorem hiC_ok (X : HiX a b) (hk : kindOf st = oneType') (hm : HiM a b out (na + 1) (nb + 1)) (hna : na < a.size) (hnb : nb < b.size) (h1 : 0 < nb) (hle : ky a[na] ≤ ky b[nb]) (h3 : n + (na + 1) + (nb + 1) ≤ a.size + b.size) (mg ac bc : Nat) :
    wpS (model prog w) A E s (hiC a b out (na + 1) (nb + 1) mg ac bc) (HiP a b st n) (setG st g) := by
  unfold hiC
  refine wpS_bind (wpS_elem (arr_get hnb) ?_)
  have hm' := pushH_B hm X.sa hna hnb hle
  refine wpS_eq (fun he => wpS_pure ⟨g, rfl, .inl ⟨_, rfl, goodH_first hm' he X.first⟩⟩) fun he => ?_
  have hnb' := Nat.le_of_lt hnb
  refine wpS_bind (wpS_elem (arr_get hna) (wpS_bind (wpS_gallop hk (isInt_at X.ha _) (arr0 X.hb hnb') (mono0 X.sb hnb') (Nat.pred_lt (Nat.ne_of_gt h1)) fun r hr hr1 hr2 => ?_)))
  have hr1' : ∀ i, i < r → K b i < ky a[na] := fun i hi => Nat.zero_add i ▸ hr1 i hi
  have hr2' : ∀ i, r ≤ i → i < nb → ¬ K b i < ky a[na] := fun i h hi => Nat.zero_add i ▸ hr2 i h hi
  refine wpS_if (fun hr0 => ?_) fun hr0 => ?_
  · have hm3 := chunkH_B hm' X.sa hna hr (fun i h1 h2 => Int.not_lt.mp (hr2' i h1 h2))
    refine wpS_eq (fun he => wpS_pure ⟨g, rfl, .inl ⟨_, rfl, goodH_first hm3 he X.first⟩⟩) fun he1 => ?_
    refine wpS_eq (fun he => wpS_pure ⟨g, rfl, .inl ⟨_, rfl, goodH_doneB hm3 he⟩⟩) fun he0 => ?_
    obtain ⟨r, rfl⟩ := Nat.exists_eq_succ_of_ne_zero he0
    have hrb : r < b.size := Nat.lt_of_lt_of_le hr hnb'
    exact hiD_ok X hm3 hna hrb (Nat.pos_of_ne_zero fun q => he1 (congrArg (· + 1) q)) (by rw [← K_at hrb]; exact Int.le_of_lt (hr1' r (Nat.lt_succ_self _)))
      (Nat.le_trans (Nat.add_le_add (Nat.le_succ (n + na)) (Nat.le_succ_of_le hr)) h3) _ _ _
  · obtain rfl : r = nb := Nat.le_antisymm hr (Nat.le_of_sub_eq_zero (Nat.eq_zero_of_not_pos hr0))
    obtain ⟨r, rfl⟩ := Nat.exists_eq_succ_of_ne_zero (Nat.ne_of_gt h1)
    have hrb : r < b.size := Nat.lt_of_succ_lt hnb
    exact hiD_ok X hm' hna hrb (Nat.pos_of_ne_zero fun q => he (congrArg (· + 1) q)) (by rw [← K_at hrb]; exact Int.le_of_lt (hr1' r (Nat.lt_succ_self _)))
      (Nat.le_trans (Nat.add_le_add (Nat.le_succ (n + na)) (Nat.le_succ _)) h3) _ _ _

theorem hiB_ok (X : HiX a b) (hk : kindOf st = oneType') (hI : HiI a b n out na nb) (mg ac bc : Nat) :
    wpS (model prog w) A E s (hiB a b out na nb mg ac bc) (HiP a b st n) (setG st g) := by
  obtain ⟨hm, h1, h2, h3, h4, h5⟩ := hI
  obtain ⟨nb, rfl⟩ := Nat.exists_eq_succ_of_ne_zero (Nat.ne_of_gt (Nat.lt_of_succ_lt h3))
  obtain ⟨na, rfl⟩ := Nat.exists_eq_succ_of_ne_zero (Nat.ne_of_gt h1)
  have hb0 := Nat.lt_of_succ_lt_succ h3
  unfold hiB
  refine wpS_bind (wpS_setMG (wpS_bind (wpS_elem (arr_get h4) (wpS_bind (wpS_gallop hk (isInt_at X.hb _) (arr0 X.ha h2) (mono0 X.sa h2) (Nat.lt_succ_self _) fun r hr hr1 hr2 => ?_)))))
  have hr1' : ∀ i, i < r → K a i ≤ ky b[nb] := fun i hi => Nat.zero_add i ▸ hr1 i hi
  have hr2' : ∀ i, r ≤ i → i < na + 1 → ¬ K a i ≤ ky b[nb] := fun i h hi => Nat.zero_add i ▸ hr2 i h hi
  refine wpS_if (fun hr0 => ?_) fun hr0 => ?_
  · have hm1 := chunkH_A hm X.sb h4 hr (fun i h1 h2 => Int.le_of_lt (Int.not_le.mp (hr2' i h1 h2)))
    refine wpS_eq (fun he => wpS_pure ⟨_, rfl, .inl ⟨_, rfl, goodH_done hm1 he⟩⟩) fun he0 => ?_
    obtain ⟨r, rfl⟩ := Nat.exists_eq_succ_of_ne_zero he0
    have hra : r < a.size := Nat.lt_of_lt_of_le hr h2
    exact hiC_ok X hk hm1 hra h4 hb0 (by rw [← K_at hra]; exact hr1' r (Nat.lt_succ_self _)) (Nat.le_trans (Nat.add_le_add_right (Nat.add_le_add_left hr n) _) h5) _ _ _
  · obtain rfl : r = na + 1 := Nat.le_antisymm hr (Nat.le_of_sub_eq_zero (Nat.eq_zero_of_not_pos hr0))
    exact hiC_ok X hk hm h2 h4 hb0 (by rw [← K_at h2]; exact hr1' na (Nat.lt_succ_self _)) h5 _ _ _

theorem hiS_ok (X : HiX a b) (hk : kindOf st = oneType') {c : HiS} (hI : HiI a b n c.2.2.2.1 c.2.1 c.2.2.1) (mg : Nat) :
    wpS (model prog w) A E s (hiS a b mg c) (fun r st' => match r with
      | .done c' => st' = st ∧ HiR a b (n + 1) c'.1 c'.2.1 c'.2.2.1 c'.2.2.2.1
      | .yield c' => st' = st ∧ c'.1 = none ∧ HiI a b (n + 1) c'.2.2.2.1 c'.2.1 c'.2.2.1) st := by
  obtain ⟨r, na, nb, out, c⟩ := c
  obtain ⟨hm, h1, h2, h3, h4, h5⟩ := hI
  obtain ⟨nb, rfl⟩ : ∃ k, nb = k + 1 := Nat.exists_eq_succ_of_ne_zero (Nat.ne_of_gt (Nat.lt_of_succ_lt h3))
  obtain ⟨na, rfl⟩ : ∃ k, na = k + 1 := Nat.exists_eq_succ_of_ne_zero (Nat.ne_of_gt h1)
  unfold hiS
  refine wpS_bind (wpS_elem (arr_get h4) (wpS_bind (wpS_elem (arr_get h2) (wpS_bind (wpS_lt hk (isInt_at X.hb _) (isInt_at X.ha _) ?_)))))
  refine wpS_if (fun hw => wpS_bind (wpS_elem (arr_get h2) ?_)) fun hw => wpS_bind (wpS_elem (arr_get h4) ?_)
  · have hm2 := pushH_A hm X.sb h2 h4 (Int.le_of_lt (of_decide_eq_true hw))
    refine wpS_eq (fun he => wpS_pure ⟨rfl, .inl ⟨_, rfl, goodH_done hm2 he⟩⟩) fun he => ?_
    have hI : HiI a b (n + 1) _ na (nb + 1) := ⟨hm2, Nat.pos_of_ne_zero he, Nat.le_of_lt h2, h3, h4, by rw [Nat.add_right_comm n 1 na]; exact h5⟩
    exact wpS_if (fun _ => wpS_pure ⟨rfl, .inr ⟨rfl, hI⟩⟩) fun _ => wpS_pure ⟨rfl, rfl, hI⟩
  · have hm2 := pushH_B hm X.sa h2 h4 (Int.not_lt.mp (fun q => hw (decide_eq_true q)))
    refine wpS_eq (fun he => wpS_pure ⟨rfl, .inl ⟨_, rfl, goodH_first hm2 he X.first⟩⟩) fun he => ?_
    have hI : HiI a b (n + 1) _ (na + 1) nb := ⟨hm2, h1, h2, Nat.lt_of_le_of_ne (Nat.lt_of_succ_lt_succ h3) (Ne.symm he), Nat.le_of_lt h4, by rw [Nat.add_right_comm n, Nat.add_right_comm _ 1 nb]; exact h5⟩
    exact wpS_if (fun _ => wpS_pure ⟨rfl, .inr ⟨rfl, hI⟩⟩) fun _ => wpS_pure ⟨rfl, rfl, hI⟩

theorem HiI.mono {m : Nat} (h : HiI a b n out na nb) (hm : m ≤ n) : HiI a b m out na nb :=
  ⟨h.1, h.2.1, h.2.2.1, h.2.2.2.1, h.2.2.2.2.1, Nat.le_trans (Nat.add_le_add_right (Nat.add_le_add_right hm _) _) h.2.2.2.2.2⟩
theorem HiI.end_ (h : HiI a b n out na nb) (hn : a.size + b.size ≤ n) : False := by
  obtain ⟨_, h1, _, _, _, h5⟩ := h
  omega

theorem hiO_ok (X : HiX a b) (hk : kindOf st = oneType') {c : HiO} (hI : HiI a b n c.2.2.2.1 c.2.1 c.2.2.1) :
    wpS (model prog w) A E s (hiO a b c) (fun r st' => match r with
      | .done c' => ∃ g res, st' = setG st g ∧ c'.1 = some res ∧ LoG a b res
      | .yield c' => ∃ g, st' = setG st g ∧ c'.1 = none ∧ HiI a b (n + 1) c'.2.2.2.1 c'.2.1 c'.2.2.1) (setG st g) := by
  unfold hiO
  refine wpS_bind (wpS_mono (wpS_forRange
    (I := fun y d st' => st' = setG st g ∧ d.1 = none ∧ HiI a b (n + y) d.2.2.2.1 d.2.1 d.2.2.1)
    (Q := fun d st' => st' = setG st g ∧ HiR a b (n + 1) d.1 d.2.1 d.2.2.1 d.2.2.2.1)
    (fun y d st' _ _ h => ?_) (fun d st' h => ?_) ⟨rfl, rfl, hI⟩) fun d st' h => ?_)
  · obtain ⟨rfl, _, h⟩ := h
    refine wpS_mono (hiS_ok (st := setG st g) X hk h _) fun r st' h' => ?_
    cases r with
    | done c' => exact ⟨h'.1, h'.2.imp id fun q => ⟨q.1, q.2.mono (Nat.succ_le_succ (Nat.le_add_right _ _))⟩⟩
    | yield c' => exact h'
  · exact (h.2.2.end_ (Nat.le_trans (Nat.le_max_right _ _) (Nat.le_add_left _ _))).elim
  · obtain ⟨rfl, h⟩ := h
    rcases h with ⟨res, e, hg⟩ | ⟨e, h⟩
    · rw [e]; exact wpS_pure ⟨g, res, rfl, rfl, hg⟩
    rw [e]
    refine wpS_bind (wpS_lift (wpAny_rule ⟨rfl, ?_⟩))
    refine wpS_bind (wpS_mono (wpS_forRange
      (I := fun _ d st' => ∃ g, st' = setG st g ∧ d.1 = none ∧ HiI a b (n + 1) d.2.2.2.1 d.2.1 d.2.2.1)
      (Q := fun d st' => ∃ g, st' = setG st g ∧ HiR a b (n + 1) d.1 d.2.1 d.2.2.1 d.2.2.2.1)
      (fun y d st' _ _ h => ?_) (fun d st' h => ?_) ⟨g, rfl, rfl, h⟩) fun d st' h => ?_)
    · obtain ⟨g, rfl, _, h⟩ := h
      have k := fun mg => hiB_ok (prog := prog) (w := w) (A := A) (E := E) (s := s) (st := st) (g := g) X hk h mg d.2.2.2.2.2.1 d.2.2.2.2.2.2
      refine wpS_mono (Q := HiP a b st (n + 1)) (wpS_if (fun _ => k _) fun _ => k _) fun r st' h' => ?_
      cases r <;> exact h'
    · obtain ⟨g, h⟩ := h; exact ⟨g, h.1, .inr h.2⟩
    · obtain ⟨g, rfl, h⟩ := h
      rcases h with ⟨res, e, hg⟩ | ⟨e, h⟩
      · rw [e]; exact wpS_pure ⟨g, res, rfl, rfl, hg⟩
      · rw [e]
        exact wpS_bind (wpS_setMG (wpS_pure ⟨_, rfl, rfl, h⟩))

theorem wpS_mergeHi {Q : Array Keyed → SortSt → Prop} (hk : kindOf st = oneType') (ha : ∀ x ∈ a.toList, IsInt x) (hb : ∀ x ∈ b.toList, IsInt x)
    (sa : Srt ky a.toList) (sb : Srt ky b.toList) (na : 0 < a.size) (nb : 0 < b.size)
    (hfirst : ∀ x ∈ b.toList.take 1, ∀ y ∈ a.toList, ky x ≤ ky y) (hlast : ky b[b.size - 1] ≤ ky a[a.size - 1])
    (h : ∀ out g, LoG a b out → Q out (setG st g)) : wpS (model prog w) A E s (mergeHi' a b) Q st := by
  rw [mergeHi'_eq]
  have e1 := Nat.sub_add_cancel na
  have e2 := Nat.sub_add_cancel nb
  have la : a.size - 1 < a.size := Nat.pred_lt (Nat.ne_of_gt na)
  refine wpS_bind (wpS_lift (wpAny_rule ⟨rfl, wpS_bind (wpS_elem (arr_get la) ?_)⟩))
  have m1 : HiM a b (#[a[a.size - 1]] : Array Keyed) (a.size - 1) b.size := by
    have m0 : HiM a b (#[] : Array Keyed) (a.size - 1 + 1) (b.size - 1 + 1) := by
      rw [e1, e2]
      refine ⟨?_, ?_, ?_⟩
      · rw [← Array.length_toList, List.drop_length, ← Array.length_toList, List.drop_length]; exact List.Perm.nil
      · rw [← Array.length_toList, List.take_length]; exact (List.append_nil _).symm ▸ sa
      · rw [← Array.length_toList, List.take_length]; exact (List.append_nil _).symm ▸ sb
    have := pushH_A m0 sb la (Nat.pred_lt (Nat.ne_of_gt nb)) hlast
    rwa [e2] at this
  refine wpS_eq (fun he => wpS_pure (h _ (gallopOf st) (goodH_done m1 he))) fun ha1 => ?_
  refine wpS_eq (fun he => wpS_pure (h _ (gallopOf st) (goodH_first m1 he hfirst))) fun hb1 => ?_
  refine wpS_bind (wpS_get (wpS_bind (wpS_mono (wpS_forRange
    (I := fun x c st' => ∃ g, st' = setG st g ∧ c.1 = none ∧ HiI a b (x + 1) c.2.2.2.1 c.2.1 c.2.2.1)
    (Q := fun c st' => ∃ g res, st' = setG st g ∧ c.1 = some res ∧ LoG a b res)
    (fun x c st' _ _ h => ?_) (fun c st' h => ?_) ⟨gallopOf st, rfl, rfl, m1, Nat.pos_of_ne_zero ha1, Nat.sub_le _ _, Nat.lt_of_le_of_ne nb (Ne.symm hb1), Nat.le_refl _, by show 0 + 1 + (a.size - 1) + b.size ≤ _; rw [Nat.zero_add, Nat.add_comm 1, e1]; exact Nat.le_refl _⟩) fun c st' h' => ?_)))
  · obtain ⟨g, rfl, _, h⟩ := h
    refine wpS_mono (hiO_ok (g := g) ⟨ha, hb, sa, sb, hfirst⟩ hk h) fun r st' h' => ?_
    cases r <;> exact h'
  · obtain ⟨g, rfl, _, h⟩ := h
    exact (h.end_ (Nat.le_trans (Nat.le_max_right _ _) (Nat.le_succ _))).elim
  · obtain ⟨g, res, rfl, e, hg⟩ := h'
    rw [e]; exact wpS_pure (h _ _ hg)
end
end Mine
end
section
namespace Mine
open PySem PyProof PyProof.Rows

/-- the array is sorted from one place up to another. -/
noncomputable def SIn (xs : Array Keyed) (lo hi : Nat) : Prop := ∀ i j, lo ≤ i → i ≤ j → j < hi → K xs i ≤ K xs j

structure TB (a₀ : Array Keyed) (st : SortSt) : Prop where
  perm : (arrOf st).Perm a₀
  kind : kindOf st = oneType'
  failed : failedOf st = none

theorem TB.size {a₀ : Array Keyed} {st : SortSt} (h : TB a₀ st) : (arrOf st).size = a₀.size := h.perm.size_eq
theorem TB.ints {a₀ : Array Keyed} {st : SortSt} (h : TB a₀ st) (h0 : IntKeys a₀) : ∀ x ∈ (arrOf st).toList, IsInt x := fun x hx =>
  h0 x ((Array.perm_iff_toList_perm.mp h.perm).mem_iff.mp hx)
theorem TB.setArr {a₀ : Array Keyed} {st : SortSt} (h : TB a₀ st) {xs : Array Keyed} (hp : xs.Perm (arrOf st)) : TB a₀ (setArr st xs) :=
  ⟨hp.trans h.perm, h.kind, h.failed⟩

noncomputable def writeAt (arr : Array Keyed) (sa : Nat) (m : Array Keyed) : Array Keyed := m.toList.zipIdx.foldl (fun a (p, j) => a.setIfInBounds (sa + j) p) arr

theorem write_list (sa : Nat) : ∀ (l : List Keyed) (k : Nat) (arr : Array Keyed), sa + k + l.length ≤ arr.size →
    ((l.zipIdx k).foldl (fun a (p, j) => a.setIfInBounds (sa + j) p) arr).toList = arr.toList.take (sa + k) ++ l ++ arr.toList.drop (sa + k + l.length)
  | [], k, arr, h => by simp
  | x :: l, k, arr, h => by
    rw [List.zipIdx_cons, List.foldl_cons]
    rw [List.length_cons] at h
    have ih := write_list sa l (k + 1) (arr.setIfInBounds (sa + k) x) (by rw [Array.size_setIfInBounds]; omega)
    rw [ih, Array.toList_setIfInBounds]
    have hlt : sa + k < arr.toList.length := by simp; omega
    have e1 : (arr.toList.set (sa + k) x).take (sa + (k + 1)) = arr.toList.take (sa + k) ++ [x] := by
      rw [show sa + (k + 1) = (sa + k) + 1 by omega, List.take_succ_eq_append_getElem (by simpa using hlt), List.take_set_of_le (Nat.le_refl _)]
      simp
    have e2 : (arr.toList.set (sa + k) x).drop (sa + (k + 1) + l.length) = arr.toList.drop (sa + k + (l.length + 1)) := by
      rw [List.drop_set_of_lt (by omega)]; congr 1; omega
    rw [e1, e2, List.length_cons]
    simp

theorem writeAt_list {arr m : Array Keyed} {sa : Nat} (h : sa + m.size ≤ arr.size) : (writeAt arr sa m).toList = arr.toList.take sa ++ m.toList ++ arr.toList.drop (sa + m.size) := by
  have := write_list sa m.toList 0 arr (by simpa using h)
  simpa [writeAt] using this

theorem writeAt_get {arr m : Array Keyed} {sa : Nat} (h : sa + m.size ≤ arr.size) (i : Nat) :
    (writeAt arr sa m)[i]? = if sa ≤ i ∧ i < sa + m.size then m[i - sa]? else arr[i]? := by
  rw [← Array.getElem?_toList, writeAt_list h]
  have l1 : (arr.toList.take sa).length = sa := by simp; omega
  by_cases h1 : sa ≤ i ∧ i < sa + m.size
  · rw [if_pos h1, List.append_assoc, List.getElem?_append_right (by omega), l1, List.getElem?_append_left (by simp; omega), Array.getElem?_toList]
  · rw [if_neg h1]
    by_cases h2 : i < sa
    · rw [List.append_assoc, List.getElem?_append_left (by omega), List.getElem?_take_of_lt h2, Array.getElem?_toList]
    · rw [List.getElem?_append_right (by rw [List.length_append, l1]; simp; omega), List.length_append, l1, List.getElem?_drop, Array.length_toList, ← Array.getElem?_toList]
      congr 1; omega

theorem writeAt_perm {arr m : Array Keyed} {sa n : Nat} (hn : m.size = n) (h : sa + n ≤ arr.size) (hp : m.toList.Perm ((arr.toList.drop sa).take n)) : (writeAt arr sa m).Perm arr := by
  refine Array.perm_iff_toList_perm.mpr ?_
  rw [writeAt_list (by omega), hn]
  refine ((List.Perm.append_left _ hp).append_right _).trans ?_
  have e : arr.toList.take sa ++ (arr.toList.drop sa).take n ++ arr.toList.drop (sa + n) = arr.toList := by
    rw [← List.take_add, List.take_append_drop]
  rw [e]

theorem sin_ext {xs : Array Keyed} {i j : Nat} (h : SIn xs i j) (hj : j ≤ xs.size) : Srt ky (xs.extract i j).toList := by
  unfold Srt
  rw [List.pairwise_iff_getElem]
  intro p q hp hq hpq
  simp only [Array.length_toList, Array.size_extract] at hp hq
  simp only [Array.getElem_toList, Array.getElem_extract]
  have := h (i + p) (i + q) (by omega) (by omega) (by omega)
  rwa [K_at (by omega), K_at (by omega)] at this

theorem mergeAt'_eq (i : Nat) : mergeAt' i = (do
  let s ← get
  let (some (sa, na, power), some (sb, nb, _)) := ((pendingOf s)[i]?, (pendingOf s)[i + 1]?) | unsupported "internal:list.sort.pending"
  set (setPending s (((pendingOf s).setIfInBounds i (sa, na + nb, power)).eraseIdxIfInBounds (i + 1)))
  let some k ← gallop' false (← elem' (arrOf s) sb) (arrOf s) sa na 0 | return false
  let (sa, na) := (sa + k, na - k)
  if na == 0 then return true
  let some nb ← gallop' true (← elem' (arrOf s) (sa + na - 1)) (arrOf s) sb nb (nb - 1) | return false
  if nb == 0 then return true
  let x := (arrOf s).extract sa sb
  let y := (arrOf s).extract sb (sb + nb)
  let merged ← if na ≤ nb then mergeLo' x y else mergeHi' x y
  modify fun s => Rows.setArr s (writeAt (arrOf s) sa merged)
  return (failedOf (← get)).isNone) := rfl

theorem merged_K {xs x y m : Array Keyed} {sa sb e : Nat} (hx : x = xs.extract sa sb) (hy : y = xs.extract sb e) (h1 : sa ≤ sb) (h2 : sb ≤ e) (he : e ≤ xs.size) (hg : LoG x y m) :
    m.size = e - sa ∧ m.toList.Perm ((xs.toList.drop sa).take (e - sa)) ∧ (∀ i j, i ≤ j → j < m.size → K m i ≤ K m j) ∧ ∀ i, i < m.size → ∃ t, sa ≤ t ∧ t < e ∧ K m i = K xs t := by
  have exy : x.toList ++ y.toList = (xs.toList.drop sa).take (e - sa) := by
    rw [hx, hy, ext_list, ext_list, show e - sa = (sb - sa) + (e - sb) by omega, List.take_add, List.drop_drop, show sa + (sb - sa) = sb by omega]
  have hp := hg.perm
  rw [exy] at hp
  have hl := hp.length_eq
  simp only [Array.length_toList, List.length_take, List.length_drop] at hl
  have hsz : m.size = e - sa := by omega
  refine ⟨hsz, hp, fun i j hij hj => srt_K hg.srt hij hj, fun i hi => ?_⟩
  have hm : m[i] ∈ (xs.toList.drop sa).take (e - sa) := hp.mem_iff.mp (by simp)
  obtain ⟨j, hj, hj', ej⟩ := mem_chunk hm
  exact ⟨sa + j, by omega, by omega, by rw [K_at hi, ej, K_at hj']⟩

theorem sin_glue {xs : Array Keyed} {lo mid hi : Nat} (h1 : SIn xs lo mid) (h2 : SIn xs mid hi) (hx : ∀ i, lo ≤ i → i < mid → ∀ j, mid ≤ j → j < hi → K xs i ≤ K xs j) : SIn xs lo hi := fun i j a1 a2 a3 => by
  by_cases hj : j < mid
  · exact h1 i j a1 a2 hj
  · by_cases hi : i < mid
    · exact hx i a1 hi j (Nat.not_lt.mp hj) a3
    · exact h2 i j (Nat.not_lt.mp hi) a2 a3

theorem merge_sin {xs ys m : Array Keyed} {sa p sb q e : Nat} (h1 : sa ≤ p) (h2 : p ≤ sb) (h3 : sb ≤ q) (h4 : q ≤ e) (s1 : SIn xs sa sb) (s2 : SIn xs sb e)
    (lo : ∀ i, sa ≤ i → i < p → ∀ j, sb ≤ j → j < e → K xs i ≤ K xs j) (hi : ∀ j, q ≤ j → j < e → ∀ i, sa ≤ i → i < sb → K xs i ≤ K xs j)
    (m3 : ∀ i j, i ≤ j → j < m.size → K m i ≤ K m j) (m4 : ∀ i, i < m.size → ∃ t, p ≤ t ∧ t < q ∧ K m i = K xs t) (hm : m.size = q - p)
    (hin : ∀ i, p ≤ i → i < q → K ys i = K m (i - p)) (hout : ∀ i, (i < p ∨ q ≤ i) → K ys i = K xs i) : SIn ys sa e := by
  have hpq := Nat.le_trans h2 h3
  have hinT : ∀ i, p ≤ i → i < q → ∃ t, p ≤ t ∧ t < q ∧ K ys i = K xs t := fun i a b => by
    rw [hin i a b]; exact m4 _ (hm ▸ Nat.sub_lt_sub_right a b)
  refine sin_glue (mid := q) (sin_glue (mid := p) (fun i j a1 a2 a3 => ?_) (fun i j a1 a2 a3 => ?_) fun i a1 a2 j a3 a4 => ?_) (fun i j a1 a2 a3 => ?_) fun i a1 a2 j a3 a4 => ?_
  · rw [hout i (.inl (Nat.lt_of_le_of_lt a2 a3)), hout j (.inl a3)]; exact s1 i j a1 a2 (Nat.lt_of_lt_of_le a3 h2)
  · rw [hin i a1 (Nat.lt_of_le_of_lt a2 a3), hin j (Nat.le_trans a1 a2) a3]; exact m3 _ _ (Nat.sub_le_sub_right a2 p) (hm ▸ Nat.sub_lt_sub_right (Nat.le_trans a1 a2) a3)
  · obtain ⟨t, t1, t2, e⟩ := hinT j a3 a4
    rw [hout i (.inl a2), e]
    by_cases ht : t < sb
    · exact s1 i t a1 (Nat.le_trans (Nat.le_of_lt a2) t1) ht
    · exact lo i a1 a2 t (Nat.not_lt.mp ht) (Nat.lt_of_lt_of_le t2 h4)
  · rw [hout i (.inr a1), hout j (.inr (Nat.le_trans a1 a2))]; exact s2 i j (Nat.le_trans h3 a1) a2 a3
  · rw [hout j (.inr a3)]
    by_cases hp : i < p
    · rw [hout i (.inl hp)]; exact hi j a3 a4 i a1 (Nat.lt_of_lt_of_le hp h2)
    · obtain ⟨t, t1, t2, e⟩ := hinT i (Nat.not_lt.mp hp) a2
      rw [e]
      by_cases ht : t < sb
      · exact hi j a3 a4 t (Nat.le_trans h1 t1) ht
      · exact s2 t j (Nat.not_lt.mp ht) (Nat.le_trans (Nat.le_of_lt t2) a3) a4

theorem ext_size {xs : Array Keyed} {i j : Nat} (hj : j ≤ xs.size) : (xs.extract i j).size = j - i := by rw [Array.size_extract, Nat.min_eq_left hj]
theorem ext_K {xs : Array Keyed} {i j t : Nat} (ht : t < (xs.extract i j).size) : ky (xs.extract i j)[t] = K xs (i + t) := by
  rw [Array.getElem_extract, K_at (by rw [Array.size_extract] at ht; omega)]
theorem ext_mem {xs : Array Keyed} {i j k : Nat} (hj : j ≤ xs.size) {u : Keyed} (hu : u ∈ (xs.extract i j).toList.drop k) : ∃ t, i + k ≤ t ∧ t < j ∧ ky u = K xs t := by
  obtain ⟨p, h1, h2, rfl⟩ := mem_rest hu
  exact ⟨i + p, Nat.add_le_add_left h1 i, by rw [ext_size hj] at h2; exact Nat.add_lt_of_lt_sub' h2, ext_K h2⟩
theorem ext_int {xs : Array Keyed} (h : ∀ x ∈ xs.toList, IsInt x) {i j : Nat} : ∀ x ∈ (xs.extract i j).toList, IsInt x := fun x hx => h x (by
  rw [ext_list] at hx; exact List.mem_of_mem_drop (List.mem_of_mem_take hx))

section
variable {prog : Program} {w : World} {A : Around} {E : Value → Shared → Prop} {s : Shared} {a₀ : Array Keyed}

theorem wpS_set {σ : Type} {M : Model} {t : σ} {Q : PUnit → σ → Prop} {st : σ} (h : Q ⟨⟩ t) : wpS M A E s (set t : StateT σ Sem PUnit) Q st := by
  unfold wpS; rw [StateT.run_set]; exact wpAny_pure ⟨rfl, h⟩

theorem after_ok {st : SortSt} {sa p sb q e : Nat} {m : Array Keyed} {g : Nat} {pd : Array (Nat × Nat × Nat)} {Q : Bool → SortSt → Prop} (T : TB a₀ st)
    (h1 : sa ≤ p) (h2 : p ≤ sb) (h3 : sb ≤ q) (h4 : q ≤ e) (h5 : e ≤ (arrOf st).size) (s1 : SIn (arrOf st) sa sb) (s2 : SIn (arrOf st) sb e)
    (lo : ∀ i, sa ≤ i → i < p → ∀ j, sb ≤ j → j < e → K (arrOf st) i ≤ K (arrOf st) j) (hi : ∀ j, q ≤ j → j < e → ∀ i, sa ≤ i → i < sb → K (arrOf st) i ≤ K (arrOf st) j)
    (hg : LoG ((arrOf st).extract p sb) ((arrOf st).extract sb q) m)
    (h : ∀ st', TB a₀ st' → pendingOf st' = pd → SIn (arrOf st') sa e → (∀ j, (j < sa ∨ e ≤ j) → K (arrOf st') j = K (arrOf st) j) → Q true st') :
    wpS (model prog w) A E s (do
        modify fun s => Rows.setArr s (writeAt (arrOf s) p m)
        return (failedOf (← get)).isNone) Q (setG (setPending st pd) g) := by
  obtain ⟨m1, m2, m3, m4⟩ := merged_K rfl rfl h2 h3 (Nat.le_trans h4 h5) hg
  have epq : p + (q - p) = q := Nat.add_sub_cancel' (Nat.le_trans h2 h3)
  have hw : p + m.size ≤ (arrOf st).size := by rw [m1, epq]; exact Nat.le_trans h4 h5
  have hin : ∀ i, p ≤ i → i < q → K (writeAt (arrOf st) p m) i = K m (i - p) := fun i a b => K_congr ((writeAt_get hw i).trans (if_pos ⟨a, by rw [m1, epq]; exact b⟩))
  have hout : ∀ i, (i < p ∨ q ≤ i) → K (writeAt (arrOf st) p m) i = K (arrOf st) i := fun i a => K_congr ((writeAt_get hw i).trans (if_neg fun c => by
    rw [m1, epq] at c; exact a.elim (Nat.not_lt.mpr c.1) (Nat.not_le.mpr c.2)))
  have fin := h (Rows.setArr (setG (setPending st pd) g) (writeAt (arrOf st) p m)) ⟨(writeAt_perm m1 (by rw [epq]; exact Nat.le_trans h4 h5) m2).trans T.perm, T.kind, T.failed⟩ rfl
    (merge_sin h1 h2 h3 h4 s1 s2 lo hi m3 m4 m1 hin hout) fun j hj => hout j (hj.imp (fun a => Nat.lt_of_lt_of_le a h1) fun a => Nat.le_trans h4 a)
  refine wpS_bind (wpS_modify (wpS_bind (wpS_get (wpS_pure ?_))))
  show Q (failedOf st).isNone _
  rw [T.failed]; exact fin

theorem wpS_mergeAt {st : SortSt} {i sa na pw sb nb pw2 : Nat} {Q : Bool → SortSt → Prop} (T : TB a₀ st) (h0 : IntKeys a₀)
    (hp1 : (pendingOf st)[i]? = some (sa, na, pw)) (hp2 : (pendingOf st)[i + 1]? = some (sb, nb, pw2)) (hsb : sb = sa + na) (hna : 0 < na) (hnb : 0 < nb)
    (hsz : sb + nb ≤ a₀.size) (s1 : SIn (arrOf st) sa sb) (s2 : SIn (arrOf st) sb (sb + nb))
    (h : ∀ st', TB a₀ st' → pendingOf st' = ((pendingOf st).setIfInBounds i (sa, na + nb, pw)).eraseIdxIfInBounds (i + 1) → SIn (arrOf st') sa (sb + nb) →
      (∀ j, (j < sa ∨ sb + nb ≤ j) → K (arrOf st') j = K (arrOf st) j) → Q true st') : wpS (model prog w) A E s (mergeAt' i) Q st := by
  rw [mergeAt'_eq]
  have hI := T.ints h0
  rw [← T.size] at hsz
  have hsa : sa < sb := hsb ▸ Nat.lt_add_of_pos_right hna
  have hb : sb < (arrOf st).size := Nat.lt_of_lt_of_le (Nat.lt_add_of_pos_right hnb) hsz
  refine wpS_bind (wpS_get ?_)
  rw [hp1, hp2]
  refine wpS_bind (wpS_set (wpS_bind (wpS_elem (arr_get hb) ?_)))
  refine wpS_bind (wpS_gallop T.kind (isInt_at hI _) (fun i hi => ⟨_, arr_get (Nat.lt_trans (hsb ▸ Nat.add_lt_add_left hi sa) hb), isInt_at hI _⟩)
    (fun i j hij hj => s1 _ _ (Nat.le_add_right _ _) (Nat.add_le_add_left hij sa) (hsb ▸ Nat.add_lt_add_left hj sa)) hna fun k hk hk1 hk2 => ?_)
  have hpk : sa + k ≤ sb := hsb ▸ Nat.add_le_add_left hk sa
  have lo : ∀ i, sa ≤ i → i < sa + k → ∀ j, sb ≤ j → j < sb + nb → K (arrOf st) i ≤ K (arrOf st) j := fun i a1 a2 j a3 a4 => by
    have a : K (arrOf st) (sa + (i - sa)) ≤ _ := hk1 (i - sa) (Nat.sub_lt_left_of_lt_add a1 a2)
    rw [Nat.add_sub_cancel' a1, ← K_at hb] at a
    exact Int.le_trans a (s2 sb j (Nat.le_refl _) a3 a4)
  have ek : sa + k + (na - k) = sb := by rw [Nat.add_assoc, Nat.add_sub_cancel' hk, hsb]
  have T' : TB a₀ (setPending st (((pendingOf st).setIfInBounds i (sa, na + nb, pw)).eraseIdxIfInBounds (i + 1))) := ⟨T.perm, T.kind, T.failed⟩
  refine wpS_eq (fun hz => wpS_pure (h _ T' rfl (sin_glue s1 s2 fun i a1 a2 => lo i a1 (by rw [hz, Nat.add_zero] at ek; rw [ek]; exact a2)) fun _ _ => rfl)) fun hz => ?_
  have hk' : k < na := Nat.lt_of_sub_pos (Nat.pos_of_ne_zero hz)
  have hp' : sa + k < sb := hsb ▸ Nat.add_lt_add_left hk' sa
  have hkx : ¬ K (arrOf st) (sa + k) ≤ K (arrOf st) sb := by rw [K_at hb]; exact hk2 k (Nat.le_refl _) hk'
  clear hk1 hk2 hna hk hk' hz hp1 hp2
  have hl1 : sb - 1 < sb := Nat.sub_lt (Nat.lt_of_le_of_lt (Nat.zero_le _) hsa) Nat.one_pos
  have hl2 := Nat.lt_trans hl1 hb
  rw [ek]
  refine wpS_bind (wpS_elem (arr_get hl2) ?_)
  refine wpS_bind (wpS_gallop T.kind (isInt_at hI _) (fun i hi => ⟨_, arr_get (Nat.lt_of_lt_of_le (Nat.add_lt_add_left hi sb) hsz), isInt_at hI _⟩)
    (fun i j hij hj => s2 _ _ (Nat.le_add_right _ _) (Nat.add_le_add_left hij sb) (Nat.add_lt_add_left hj sb)) (Nat.sub_lt hnb Nat.one_pos) fun r hr hr1 hr2 => ?_)
  have hrx : ∀ t, sb ≤ t → t < sb + r → K (arrOf st) t < K (arrOf st) (sb - 1) := fun t a1 a2 => by
    have a : K (arrOf st) (sb + (t - sb)) < _ := hr1 (t - sb) (Nat.sub_lt_left_of_lt_add a1 a2)
    rwa [Nat.add_sub_cancel' a1, ← K_at hl2] at a
  have hi : ∀ j, sb + r ≤ j → j < sb + nb → ∀ i, sa ≤ i → i < sb → K (arrOf st) i ≤ K (arrOf st) j := fun j a1 a2 i a3 a4 => by
    have a5 := Nat.le_trans (Nat.le_add_right _ _) a1
    have a : ¬ K (arrOf st) (sb + (j - sb)) < _ := hr2 (j - sb) (Nat.le_sub_of_add_le' a1) (Nat.sub_lt_left_of_lt_add a5 a2)
    rw [Nat.add_sub_cancel' a5, ← K_at hl2] at a
    exact Int.le_trans (s1 i (sb - 1) a3 (Nat.le_sub_one_of_lt a4) hl1) (Int.not_lt.mp a)
  refine wpS_eq (fun hz => wpS_pure (h _ T' rfl (sin_glue s1 s2 fun i a1 a2 j a3 a4 => hi j (by rw [hz]; exact a3) a4 i a1 a2) fun _ _ => rfl)) fun hz => ?_
  have hr0 := Nat.pos_of_ne_zero hz
  clear hr1 hr2 hz
  have hq := Nat.add_le_add_left hr sb
  have hqs := Nat.le_trans hq hsz
  have after := fun m g hg => after_ok (m := m) (g := g) (prog := prog) (w := w) (A := A) (E := E) (s := s) T (Nat.le_add_right sa k) hpk (Nat.le_add_right sb r) hq hsz s1 s2 lo hi hg h
  have sx := sin_ext (i := sa + k) (fun p q a1 a2 a3 => s1 p q (Nat.le_trans (Nat.le_add_right _ _) a1) a2 a3) (Nat.le_of_lt hb)
  have sy := sin_ext (j := sb + r) (fun p q a1 a2 a3 => s2 p q a1 a2 (Nat.lt_of_lt_of_le a3 hq)) hqs
  have zx := ext_size (i := sa + k) (Nat.le_of_lt hb)
  have zy : ((arrOf st).extract sb (sb + r)).size = r := (ext_size hqs).trans (Nat.add_sub_cancel_left sb r)
  have px : 0 < ((arrOf st).extract (sa + k) sb).size := by rw [zx]; exact Nat.sub_pos_of_lt hp'
  have py : 0 < ((arrOf st).extract sb (sb + r)).size := by rw [zy]; exact hr0
  have exl : sa + k + (sb - (sa + k) - 1) = sb - 1 := by rw [← Nat.add_sub_assoc (Nat.sub_pos_of_lt hp'), Nat.add_sub_cancel' hpk]
  have hkx := Int.le_of_lt (Int.not_le.mp hkx)
  dsimp only
  refine wpS_if (fun _ => wpS_bind (wpS_mergeLo T.kind (ext_int hI) (ext_int hI) sx sy px py ?_ ?_ fun m g hg => after m g hg)) fun _ => wpS_bind (wpS_mergeHi T.kind (ext_int hI) (ext_int hI) sx sy px py ?_ ?_ fun m g hg => after m g hg)
  · rw [ext_K, ext_K]; exact hkx
  · intro u hu v hv
    obtain ⟨t, t1, t2, eu⟩ := ext_mem (k := 0) hqs hu
    obtain ⟨t', t3, t4, ev⟩ := ext_mem (Nat.le_of_lt hb) hv
    rw [zx, exl] at t3
    rw [eu, ev]
    exact Int.le_trans (Int.le_of_lt (hrx t t1 t2)) (s1 _ t' (Nat.le_sub_one_of_lt hsa) t3 t4)
  · intro u hu v hv
    obtain ⟨t, t1, t2, ev⟩ := ext_mem (k := 0) (Nat.le_of_lt hb) hv
    obtain ⟨j, j1, j2, rfl⟩ := mem_chunk (i := 0) (r := 1) hu
    rw [ext_K, ev, Nat.lt_one_iff.mp j1]
    exact Int.le_trans hkx (s1 _ t (Nat.le_add_right _ _) t1 t2)
  · rw [ext_K, ext_K, zx, exl]
    exact Int.le_of_lt (hrx _ (Nat.le_add_right _ _) (Nat.add_lt_add_left (by rw [zy]; exact Nat.sub_lt hr0 Nat.one_pos) sb))
end
end Mine
end
section
namespace Mine
open PySem PyProof PyProof.Rows

noncomputable def NIn (xs : Array Keyed) (lo hi : Nat) : Prop := ∀ i j, lo ≤ i → i ≤ j → j < hi → K xs j ≤ K xs i

theorem setArr_self (st : SortSt) : Rows.setArr st (arrOf st) = st := rfl

noncomputable abbrev AS := Option (Option Nat) × Nat
noncomputable abbrev DS := Option (Option Nat) × Nat × Nat
noncomputable def cAsc (lo a nrem : Nat) : StateT SortSt Sem AS := forIn [a:nrem] ((none, a) : AS) fun _ c => do
  let x ← ltAt' (lo + c.2) (lo + c.2 - 1)
  match x with
  | some sm => if sm then pure (.done (none, c.2)) else pure (.yield (none, c.2 + 1))
  | _ => pure (.done (some none, c.2))
noncomputable def cTail (lo n nrem : Nat) : StateT SortSt Sem (Option Nat) := do
  reverseSlice' lo (lo + n)
  let c ← cAsc lo n nrem
  match c.1 with
  | some r => pure r
  | none => pure (some c.2)
noncomputable def cStep (lo : Nat) (c : DS) : StateT SortSt Sem (ForInStep DS) := do
  let x ← ltAt' (lo + c.2.1) (lo + c.2.1 - 1)
  match x with
  | some sm =>
    if sm then
      if c.2.2 > 0 then do
        reverseSlice' (lo + c.2.1 - (c.2.2 + 1)) (lo + c.2.1)
        pure (.yield (none, c.2.1 + 1, 0))
      else pure (.yield (none, c.2.1 + 1, 0))
    else do
      let y ← ltAt' (lo + c.2.1 - 1) (lo + c.2.1)
      match y with
      | some la => if la then pure (.done (none, c.2.1, c.2.2)) else pure (.yield (none, c.2.1 + 1, c.2.2 + 1))
      | _ => pure (.done (some none, c.2.1, c.2.2))
  | _ => pure (.done (some none, c.2.1, c.2.2))
noncomputable def cPart (lo n nrem : Nat) : StateT SortSt Sem (Option Nat) := do
  rule "list.sort.descending-run"
  let c ← forIn [n + 1:nrem] ((none, n + 1, 0) : DS) (fun _ c => cStep lo c)
  match c.1 with
  | some r => pure r
  | none =>
    if c.2.2 > 0 then do
      reverseSlice' (lo + c.2.1 - (c.2.2 + 1)) (lo + c.2.1)
      cTail lo c.2.1 nrem
    else cTail lo c.2.1 nrem
theorem countRun_eq2 (lo nrem : Nat) : countRun' lo nrem = (do
  let c ← cAsc lo 1 nrem
  match c.1 with
  | some r => pure r
  | none =>
    if c.2 == nrem then pure (some c.2)
    else if c.2 > 1 then do
      let x ← ltAt' lo (lo + c.2 - 1)
      match x with
      | some rose => if rose then pure (some c.2) else do
          reverseSlice' lo (lo + c.2)
          cPart lo c.2 nrem
      | _ => pure none
    else cPart lo c.2 nrem) := by kernel_rfl

section
variable {prog : Program} {w : World} {A : Around} {E : Value → Shared → Prop} {s : Shared} {a₀ : Array Keyed}

theorem wpS_ltT {st : SortSt} {i j : Nat} {Q : Option Bool → SortSt → Prop} (T : TB a₀ st) (h0 : IntKeys a₀) (hi : i < a₀.size) (hj : j < a₀.size)
    (h : Q (some (decide (K (arrOf st) i < K (arrOf st) j))) st) : wpS (model prog w) A E s (ltAt' i j) Q st := by
  have hS := T.size
  rw [ltAt'_eq]
  refine wpS_bind (wpS_get ?_)
  refine wpS_bind (wpS_elem (arr_get (i := i) (by omega)) ?_)
  refine wpS_bind (wpS_elem (arr_get (i := j) (by omega)) ?_)
  refine wpS_lt T.kind (isInt_at (T.ints h0) _) (isInt_at (T.ints h0) _) ?_
  rw [← K_at (by omega), ← K_at (by omega)]
  exact h

theorem sin_snoc {xs : Array Keyed} {lo x : Nat} (h : SIn xs lo x) (hx : lo < x) (hle : K xs (x - 1) ≤ K xs x) : SIn xs lo (x + 1) := by
  intro i j h1 h2 h3
  by_cases hj : j < x
  · exact h i j h1 h2 hj
  · have : j = x := by omega
    subst this
    by_cases hi : i = j
    · subst hi; exact Int.le_refl _
    · exact Int.le_trans (h i (j - 1) h1 (by omega) (by omega)) hle
theorem nin_snoc {xs : Array Keyed} {lo x : Nat} (h : NIn xs lo x) (hx : lo < x) (hle : K xs x ≤ K xs (x - 1)) : NIn xs lo (x + 1) := by
  intro i j h1 h2 h3
  by_cases hj : j < x
  · exact h i j h1 h2 hj
  · have : j = x := by omega
    subst this
    by_cases hi : i = j
    · subst hi; exact Int.le_refl _
    · exact Int.le_trans hle (h i (j - 1) h1 (by omega) (by omega))
theorem sin_snoc' {xs : Array Keyed} {lo x : Nat} (h : SIn xs lo (lo + x)) (hx : 0 < x) (hle : K xs (lo + x - 1) ≤ K xs (lo + x)) : SIn xs lo (lo + (x + 1)) := sin_snoc (x := lo + x) h (by omega) hle
theorem nin_snoc' {xs : Array Keyed} {lo x : Nat} (h : NIn xs lo (lo + x)) (hx : 0 < x) (hle : K xs (lo + x) ≤ K xs (lo + x - 1)) : NIn xs lo (lo + (x + 1)) := nin_snoc (x := lo + x) h (by omega) hle
theorem nin_congr {xs ys : Array Keyed} {lo hi : Nat} (e : ∀ k, K ys k = K xs k) (h : NIn xs lo hi) : NIn ys lo hi := by
  intro i j h1 h2 h3; rw [e, e]; exact h i j h1 h2 h3

variable {st : SortSt} {lo nrem : Nat}

theorem asc_ok {a : Nat} {Q : AS → SortSt → Prop} (T : TB a₀ st) (h0 : IntKeys a₀) (hn : lo + nrem ≤ a₀.size) (ha : 1 ≤ a) (han : a ≤ nrem) (hs : SIn (arrOf st) lo (lo + a))
    (h : ∀ n, 1 ≤ n → n ≤ nrem → SIn (arrOf st) lo (lo + n) → (n = nrem ∨ K (arrOf st) (lo + n) < K (arrOf st) (lo + n - 1)) → Q (none, n) st) : wpS (model prog w) A E s (cAsc lo a nrem) Q st := by
  refine wpS_forRange (I := fun x c st' => st' = st ∧ c = (none, x) ∧ SIn (arrOf st) lo (lo + x)) (fun x c st' hx1 hx hI => ?_) (fun c st' hI => ?_) ⟨rfl, rfl, hs⟩
  · obtain ⟨e, rfl, hs⟩ := hI
    rw [e]
    have h1x := Nat.le_trans ha hx1
    have hlt := Nat.lt_of_lt_of_le (Nat.add_lt_add_left hx lo) hn
    refine wpS_bind (wpS_ltT T h0 hlt (Nat.lt_of_le_of_lt (Nat.sub_le _ _) hlt) ?_)
    exact wpS_if (fun hl => wpS_pure (h x h1x (Nat.le_of_lt hx) hs (.inr (of_decide_eq_true hl)))) fun hl => wpS_pure ⟨rfl, rfl, sin_snoc' hs h1x (Int.not_lt.mp fun q => hl (decide_eq_true q))⟩
  · obtain ⟨e, rfl, hs⟩ := hI
    rw [Nat.max_eq_right han] at hs ⊢
    rw [e]
    exact h nrem (Nat.le_trans ha han) (Nat.le_refl _) hs (.inl rfl)

theorem mirror_sin {zs us : Array Keyed} {x : Nat} (e : ∀ k, K us k = if lo ≤ k ∧ k < lo + x then K zs (lo + (lo + x) - 1 - k) else K zs k) (hN : NIn zs lo (lo + x)) : SIn us lo (lo + x) := by
  intro i j a1 a2 a3
  rw [e, e, if_pos ⟨a1, Nat.lt_of_le_of_lt a2 a3⟩, if_pos ⟨Nat.le_trans a1 a2, a3⟩]
  exact hN _ _ (by omega) (by omega) (by omega)

/-- what a run's end asks of the caller. -/
noncomputable def CQ (st : SortSt) (lo nrem : Nat) (Q : Option Nat → SortSt → Prop) : Prop :=
  ∀ m xs, xs.Perm (arrOf st) → (∀ j, j < lo → K xs j = K (arrOf st) j) → 1 ≤ m → m ≤ nrem → SIn xs lo (lo + m) → Q (some m) (Rows.setArr st xs)
theorem CQ.next {Q : Option Nat → SortSt → Prop} (h : CQ st lo nrem Q) {ys : Array Keyed} (hp : ys.Perm (arrOf st)) (hl : ∀ j, j < lo → K ys j = K (arrOf st) j) : CQ (Rows.setArr st ys) lo nrem Q :=
  fun m xs p l h1 h2 h3 => h m xs (p.trans hp) (fun j hj => (l j hj).trans (hl j hj)) h1 h2 h3

theorem tail_ok {x : Nat} {Q : Option Nat → SortSt → Prop} (T : TB a₀ st) (h0 : IntKeys a₀) (hn : lo + nrem ≤ a₀.size) (hx1 : 1 ≤ x) (hx2 : x ≤ nrem) (hN : NIn (arrOf st) lo (lo + x)) (h : CQ st lo nrem Q) :
    wpS (model prog w) A E s (cTail lo x nrem) Q st := by
  refine wpS_bind (wpS_reverse ?_)
  have e4 := K_mirror (xs := arrOf st) (i := lo) (j := lo + x) (by rw [T.size]; exact Nat.le_trans (Nat.add_le_add_left hx2 lo) hn)
  have hp4 := mirror_perm (arrOf st) lo (lo + x) ((lo + x - lo) / 2)
  generalize mirror (arrOf st) lo (lo + x) ((lo + x - lo) / 2) = us at e4 hp4 ⊢
  exact wpS_bind (asc_ok (T.setArr hp4) h0 hn hx1 hx2 (mirror_sin e4 hN) fun n h1 h2 h3 _ => wpS_pure (h n us hp4 (fun j hj => by rw [e4, if_neg fun q => Nat.not_le.mpr hj q.1]) h1 h2 h3))

noncomputable def DI (lo : Nat) (st st2 : SortSt) (x neq : Nat) : Prop := ∃ ys, st2 = Rows.setArr st ys ∧ ys.Perm (arrOf st) ∧ (∀ j, j < lo → K ys j = K (arrOf st) j) ∧ NIn ys lo (lo + x) ∧ neq + 1 ≤ x ∧
  ∀ i, lo + x - (neq + 1) ≤ i → i < lo + x → K ys i = K ys (lo + x - 1)
theorem last_eq {ys : Array Keyed} {x : Nat} (i : Nat) (h1 : lo + (x + 1) - (0 + 1) ≤ i) (h2 : i < lo + (x + 1)) : K ys i = K ys (lo + (x + 1) - 1) := by
  rw [show i = lo + (x + 1) - 1 by omega]

/-- turning the equal end changes no key. -/
theorem DI.turn {st2 : SortSt} {x neq : Nat} (T : TB a₀ st) (hx : lo + x ≤ a₀.size) (h : DI lo st st2 x neq) : DI lo st (Rows.setArr st2 (mirror (arrOf st2) (lo + x - (neq + 1)) (lo + x) ((lo + x - (lo + x - (neq + 1))) / 2))) x neq := by
  obtain ⟨ys, rfl, hys, hlow, hN, hq, he⟩ := h
  have e2 := K_mirror_equal (xs := ys) (i := lo + x - (neq + 1)) (j := lo + x) (by rw [hys.size_eq, T.size]; exact hx) he
  exact ⟨_, rfl, (mirror_perm _ _ _ _).trans hys, fun j hj => (e2 j).trans (hlow j hj), nin_congr e2 hN, hq, fun i a1 a2 => by rw [e2, e2]; exact he i a1 a2⟩
theorem DI.less {st2 : SortSt} {x neq : Nat} (h : DI lo st st2 x neq) (hl : K (arrOf st2) (lo + x) < K (arrOf st2) (lo + x - 1)) : DI lo st st2 (x + 1) 0 := by
  obtain ⟨ys, rfl, hys, hlow, hN, hq, _⟩ := h
  exact ⟨ys, rfl, hys, hlow, nin_snoc' hN (Nat.lt_of_lt_of_le (Nat.succ_pos _) hq) (Int.le_of_lt hl), Nat.succ_le_succ (Nat.zero_le _), last_eq⟩

theorem step_ok {st2 : SortSt} {x neq : Nat} {r : Option (Option Nat)} (T : TB a₀ st) (h0 : IntKeys a₀) (hx : lo + x < a₀.size) (h : DI lo st st2 x neq) :
    wpS (model prog w) A E s (cStep lo (r, x, neq)) (fun r st' => match r with
      | .done c => c.1 = none ∧ c.2.1 = x ∧ DI lo st st' c.2.1 c.2.2
      | .yield c => c.1 = none ∧ c.2.1 = x + 1 ∧ DI lo st st' c.2.1 c.2.2) st2 := by
  obtain ⟨ys, rfl, hys, hlow, hN, hq, he⟩ := id h
  have T2 : TB a₀ (Rows.setArr st ys) := T.setArr hys
  have hx' := Nat.lt_of_le_of_lt (Nat.sub_le (lo + x) 1) hx
  have hx1 : 0 < x := Nat.lt_of_lt_of_le (Nat.succ_pos _) hq
  refine wpS_bind (wpS_ltT T2 h0 hx hx' ?_)
  refine wpS_if (fun hl => ?_) fun hl => ?_
  · have hl := of_decide_eq_true hl
    refine wpS_if (fun _ => ?_) fun _ => wpS_pure ⟨rfl, rfl, h.less hl⟩
    refine wpS_bind (wpS_reverse (wpS_pure ⟨rfl, rfl, (h.turn T (Nat.le_of_lt hx)).less ?_⟩))
    have e2 := K_mirror_equal (xs := ys) (i := lo + x - (neq + 1)) (j := lo + x) (by rw [hys.size_eq, T.size]; exact Nat.le_of_lt hx) he
    exact (e2 _).symm ▸ (e2 _).symm ▸ hl
  · refine wpS_bind (wpS_ltT T2 h0 hx' hx ?_)
    refine wpS_if (fun _ => wpS_pure ⟨rfl, rfl, h⟩) fun hg => ?_
    have heq : K ys (lo + x) = K ys (lo + x - 1) := Int.le_antisymm (Int.not_lt.mp fun q => hg (decide_eq_true q)) (Int.not_lt.mp fun q => hl (decide_eq_true q))
    refine wpS_pure ⟨rfl, rfl, ys, rfl, hys, hlow, nin_snoc' hN hx1 (Int.le_of_eq heq), Nat.succ_le_succ hq, fun i a1 a2 => ?_⟩
    show K ys i = K ys (lo + x)
    by_cases hix : i = lo + x
    · rw [hix]
    · rw [heq]; exact he i (by clear heq hl hg; dsimp only at a1; omega) (Nat.lt_of_le_of_ne (Nat.le_of_lt_succ a2) hix)

theorem part_ok {n : Nat} {Q : Option Nat → SortSt → Prop} (T : TB a₀ st) (h0 : IntKeys a₀) (hn : lo + nrem ≤ a₀.size) (hn1 : n < nrem) (hN : NIn (arrOf st) lo (lo + (n + 1))) (h : CQ st lo nrem Q) :
    wpS (model prog w) A E s (cPart lo n nrem) Q st := by
  refine wpS_bind (wpS_lift (wpAny_rule ⟨rfl, ?_⟩))
  refine wpS_bind (wpS_mono (wpS_forRange
    (I := fun x c st2 => c.1 = none ∧ c.2.1 = x ∧ DI lo st st2 c.2.1 c.2.2)
    (Q := fun c st2 => c.1 = none ∧ c.2.1 ≤ nrem ∧ DI lo st st2 c.2.1 c.2.2)
    (fun x c st2 _ hx hI => ?_) (fun c st2 hI => ⟨hI.1, Nat.le_of_eq (hI.2.1.trans (Nat.max_eq_right hn1)), hI.2.2⟩)
    ⟨rfl, rfl, arrOf st, rfl, Array.Perm.refl _, fun _ _ => rfl, hN, Nat.succ_le_succ (Nat.zero_le _), last_eq⟩) fun c st2 hI => ?_)
  · obtain ⟨r, y, neq⟩ := c
    obtain ⟨_, e, hI⟩ := hI
    cases e
    refine wpS_mono (step_ok T h0 (Nat.lt_of_lt_of_le (Nat.add_lt_add_left hx lo) hn) hI) fun r st' h' => ?_
    cases r with
    | done c => exact ⟨h'.1, h'.2.1 ▸ Nat.le_of_lt hx, h'.2.2⟩
    | yield c => exact h'
  · obtain ⟨r, x, neq⟩ := c
    obtain ⟨e, hx, hI⟩ := hI
    cases e
    have go : ∀ st3, DI lo st st3 x neq → wpS (model prog w) A E s (cTail lo x nrem) Q st3 := by
      rintro _ ⟨ys, rfl, hys, hlow, hs', hq, _⟩
      exact tail_ok (T.setArr hys) h0 hn (Nat.le_trans (Nat.succ_le_succ (Nat.zero_le _)) hq) hx hs' (h.next hys hlow)
    exact wpS_if (fun _ => wpS_bind (wpS_reverse (go _ (hI.turn T (Nat.le_trans (Nat.add_le_add_left hx lo) hn))))) fun _ => go _ hI

theorem one_sin {xs : Array Keyed} : SIn xs lo (lo + 1) := fun i j a1 a2 a3 => by rw [show i = j by omega]; exact Int.le_refl _

theorem wpS_countRunT {Q : Option Nat → SortSt → Prop} (T : TB a₀ st) (h0 : IntKeys a₀) (hn : lo + nrem ≤ a₀.size) (h1 : 1 ≤ nrem) (h : CQ st lo nrem Q) :
    wpS (model prog w) A E s (countRun' lo nrem) Q st := by
  rw [countRun_eq2]
  refine wpS_bind (asc_ok T h0 hn (Nat.le_refl _) h1 one_sin fun n hn1 hn2 hs hor => ?_)
  have fin := h n (arrOf st) (Array.Perm.refl _) (fun _ _ => rfl) hn1 hn2 hs
  refine wpS_eq (fun _ => wpS_pure fin) fun hnn => ?_
  have hlt := hor.resolve_left hnn
  have hn3 := Nat.lt_of_le_of_ne hn2 hnn
  have hsz : lo + n < a₀.size := Nat.lt_of_lt_of_le (Nat.add_lt_add_left hn3 lo) hn
  refine wpS_if (fun _ => ?_) fun hgt => ?_
  · refine wpS_bind (wpS_ltT T h0 (Nat.lt_of_le_of_lt (Nat.le_add_right _ _) hsz) (Nat.lt_of_le_of_lt (Nat.sub_le _ _) hsz) ?_)
    refine wpS_if (fun _ => wpS_pure fin) fun hrose => ?_
    have hall : ∀ k, lo ≤ k → k < lo + n → K (arrOf st) k = K (arrOf st) (lo + n - 1) := fun k hk1 hk2 =>
      Int.le_antisymm (hs k (lo + n - 1) hk1 (Nat.le_sub_one_of_lt hk2) (Nat.sub_lt (Nat.lt_of_le_of_lt (Nat.zero_le _) hk2) Nat.one_pos)) (Int.le_trans (Int.not_lt.mp fun q => hrose (decide_eq_true q)) (hs lo k (Nat.le_refl _) hk1 hk2))
    have e1 := K_mirror_equal (xs := arrOf st) (i := lo) (j := lo + n) (by rw [T.size]; exact Nat.le_of_lt hsz) hall
    have hp := mirror_perm (arrOf st) lo (lo + n) ((lo + n - lo) / 2)
    refine wpS_bind (wpS_reverse (part_ok (T.setArr hp) h0 hn hn3 (nin_congr e1 (nin_snoc' (fun i j a1 a2 a3 => ?_) hn1 (Int.le_of_lt hlt))) (h.next hp fun j _ => e1 j)))
    rw [hall i a1 (Nat.lt_of_le_of_lt a2 a3), hall j (Nat.le_trans a1 a2) a3]; exact Int.le_refl _
  · obtain rfl : n = 1 := Nat.le_antisymm (Nat.not_lt.mp hgt) hn1
    exact part_ok T h0 hn hn3 (nin_snoc' (fun i j a1 a2 a3 => one_sin j i (Nat.le_trans a1 a2) (Nat.le_trans (Nat.le_of_lt_succ a3) a1) (Nat.lt_of_le_of_lt a2 a3)) Nat.one_pos (Int.le_of_lt hlt)) h
end
end Mine
end
section
namespace Mine
open PySem PyProof PyProof.Rows

section
variable {prog : Program} {w : World} {A : Around} {E : Value → Shared → Prop} {s : Shared} {a₀ : Array Keyed}

theorem ins_sin {xs ys : Array Keyed} {lo p q : Nat} (h1 : lo ≤ p) (h2 : p ≤ q) (hs : SIn xs lo q) (hlo : ∀ i, lo ≤ i → i < p → K xs i ≤ K xs q) (hhi : ∀ i, p ≤ i → i < q → K xs q < K xs i)
    (e0 : ∀ i, i < p → K ys i = K xs i) (e1 : K ys p = K xs q) (e2 : ∀ i, p ≤ i → i < q → K ys (i + 1) = K xs i) : SIn ys lo (q + 1) := by
  have pre : ∀ j, p + 1 ≤ j → ∃ k, j = k + 1 ∧ p ≤ k := fun j hj => by
    obtain ⟨k, rfl⟩ := Nat.exists_eq_succ_of_ne_zero (Nat.ne_of_gt (Nat.lt_of_lt_of_le (Nat.succ_pos p) hj))
    exact ⟨k, rfl, Nat.le_of_succ_le_succ hj⟩
  refine sin_glue (mid := p) (fun i j a1 a2 a3 => ?_) (sin_glue (mid := p + 1) one_sin (fun i j a1 a2 a3 => ?_) fun i a1 a2 j a3 a4 => ?_) fun i a1 a2 j a3 a4 => ?_
  · rw [e0 i (Nat.lt_of_le_of_lt a2 a3), e0 j a3]; exact hs i j a1 a2 (Nat.lt_of_lt_of_le a3 h2)
  · obtain ⟨i, rfl, b1⟩ := pre i a1
    obtain ⟨j, rfl, b2⟩ := pre j (Nat.le_trans a1 a2)
    have c2 := Nat.lt_of_succ_lt_succ a3
    have c1 := Nat.le_of_succ_le_succ a2
    rw [e2 i b1 (Nat.lt_of_le_of_lt c1 c2), e2 j b2 c2]; exact hs i j (Nat.le_trans h1 b1) c1 c2
  · obtain rfl := Nat.le_antisymm a1 (Nat.le_of_lt_succ a2)
    obtain ⟨j, rfl, b2⟩ := pre j a3
    rw [e1, e2 j b2 (Nat.lt_of_succ_lt_succ a4)]; exact Int.le_of_lt (hhi j b2 (Nat.lt_of_succ_lt_succ a4))
  · rw [e0 i a2]
    by_cases hj : j = p
    · rw [hj, e1]; exact hlo i a1 a2
    · obtain ⟨j, rfl, b2⟩ := pre j (Nat.lt_of_le_of_ne a3 (Ne.symm hj))
      rw [e2 j b2 (Nat.lt_of_succ_lt_succ a4)]; exact hs i j a1 (Nat.le_trans (Nat.le_of_lt a2) b2) (Nat.lt_of_succ_lt_succ a4)

noncomputable abbrev BS := Option Bool × Nat × Nat
noncomputable def bStep (lo k : Nat) (c : BS) : StateT SortSt Sem (ForInStep BS) :=
  if c.2.1 ≥ c.2.2 then pure (.done (none, c.2.1, c.2.2))
  else do
    let x ← ltAt' (lo + k) (lo + (c.2.1 + c.2.2) / 2)
    match x with
    | some le => if le then pure (.yield (none, c.2.1, (c.2.1 + c.2.2) / 2)) else pure (.yield (none, (c.2.1 + c.2.2) / 2 + 1, c.2.2))
    | _ => pure (.done (some false, c.2.1, c.2.2))
noncomputable def bOne (lo k : Nat) : StateT SortSt Sem (ForInStep (Option Bool × Unit)) := do
  let c ← forIn [0:k] ((none, 0, k) : BS) (fun _ c => bStep lo k c)
  match c.1 with
  | some r => pure (.done (some r, ()))
  | none => do
    moveDown' (lo + k) (lo + c.2.1)
    pure (.yield (none, ()))
theorem binarySort_eq2 (lo n ok : Nat) : binarySort' lo n ok = (do
  let c ← forIn [max ok 1 : n] ((none, ()) : Option Bool × Unit) (fun k _ => bOne lo k)
  match c.1 with
  | some r => pure r
  | none => pure true) := by kernel_rfl

noncomputable def BIv (xs : Array Keyed) (lo k : Nat) (l r : Nat) : Prop := l ≤ r ∧ r ≤ k ∧ (∀ i, lo ≤ i → i < lo + l → K xs i ≤ K xs (lo + k)) ∧ ∀ i, lo + r ≤ i → i < lo + k → K xs (lo + k) < K xs i

theorem mid_facts {l r : Nat} (h : ¬ l ≥ r) : l ≤ (l + r) / 2 ∧ (l + r) / 2 < r := by omega
theorem bStep_ok {st : SortSt} {lo k x : Nat} {c : BS} (T : TB a₀ st) (h0 : IntKeys a₀) (hk : lo + k < a₀.size) (hs : SIn (arrOf st) lo (lo + k)) (hI : BIv (arrOf st) lo k c.2.1 c.2.2) (hm : c.2.2 - c.2.1 ≤ k - x) :
    wpS (model prog w) A E s (bStep lo k c) (fun r st' => st' = st ∧ match r with
      | .done c' => c'.1 = none ∧ BIv (arrOf st) lo k c'.2.1 c'.2.1
      | .yield c' => c'.1 = none ∧ BIv (arrOf st) lo k c'.2.1 c'.2.2 ∧ c'.2.2 - c'.2.1 ≤ k - (x + 1)) st := by
  obtain ⟨_, l, r⟩ := c
  obtain ⟨h1, h2, hlo, hhi⟩ := hI
  refine wpS_if (fun hge => ?_) fun hge => ?_
  · cases Nat.le_antisymm h1 hge
    exact wpS_pure ⟨rfl, rfl, Nat.le_refl _, h2, hlo, hhi⟩
  · obtain ⟨m1, m2⟩ := mid_facts hge
    have hmk := Nat.add_lt_add_left (Nat.lt_of_lt_of_le m2 h2) lo
    refine wpS_bind (wpS_ltT T h0 hk (Nat.lt_trans hmk hk) ?_)
    dsimp only at m1 m2 hmk hm
    refine wpS_if (fun hl => wpS_pure ⟨rfl, rfl, ⟨m1, Nat.le_of_lt (Nat.lt_of_lt_of_le m2 h2), hlo, fun i a1 a2 => ?_⟩, ?_⟩) fun hl => wpS_pure ⟨rfl, rfl, ⟨m2, h2, fun i a1 a2 => ?_, hhi⟩, ?_⟩
    · exact Int.lt_of_lt_of_le (of_decide_eq_true hl) (hs _ _ (Nat.le_add_right _ _) a1 a2)
    · show (l + r) / 2 - l ≤ k - (x + 1)
      clear hlo hhi hs hl hk hmk; omega
    · exact Int.le_trans (hs i _ a1 (Nat.le_of_lt_succ a2) hmk) (Int.not_lt.mp fun q => hl (decide_eq_true q))
    · show r - ((l + r) / 2 + 1) ≤ k - (x + 1)
      clear hlo hhi hs hl hk hmk; omega

theorem bOne_ok {st : SortSt} {lo k : Nat} {Q : ForInStep (Option Bool × Unit) → SortSt → Prop} (T : TB a₀ st) (h0 : IntKeys a₀) (hk : lo + k < a₀.size) (hs : SIn (arrOf st) lo (lo + k))
    (h : ∀ ys, ys.Perm (arrOf st) → (∀ j, j < lo → K ys j = K (arrOf st) j) → SIn ys lo (lo + k + 1) → Q (.yield (none, ())) (Rows.setArr st ys)) : wpS (model prog w) A E s (bOne lo k) Q st := by
  refine wpS_bind (wpS_mono (wpS_forRange (I := fun x c st' => st' = st ∧ c.1 = none ∧ BIv (arrOf st) lo k c.2.1 c.2.2 ∧ c.2.2 - c.2.1 ≤ k - x)
    (Q := fun c st' => st' = st ∧ c.1 = none ∧ BIv (arrOf st) lo k c.2.1 c.2.1) (fun x c st' _ _ hI => ?_) (fun c st' hI => ?_)
    ⟨rfl, rfl, ⟨Nat.zero_le _, Nat.le_refl _, fun i a1 a2 => absurd a2 (Nat.not_lt.mpr a1), fun i a1 a2 => absurd a2 (Nat.not_lt.mpr a1)⟩, Nat.le_refl _⟩) fun c st' hI => ?_)
  · obtain ⟨e, _, hI, hm⟩ := hI
    rw [e]
    refine wpS_mono (bStep_ok T h0 hk hs hI hm) fun r st' h' => ?_
    cases r <;> exact h'
  · obtain ⟨e, e2, ⟨h1, h2, h3, h4⟩, hm⟩ := hI
    have el : c.2.1 = c.2.2 := Nat.le_antisymm h1 (Nat.le_of_sub_eq_zero (Nat.le_zero.mp (Nat.le_trans hm (Nat.le_of_eq (Nat.sub_eq_zero_of_le (Nat.le_max_right _ _))))))
    exact ⟨e, e2, Nat.le_refl _, el ▸ h2, h3, el ▸ h4⟩
  · obtain ⟨e, e2, hI⟩ := hI
    rw [e, e2]
    obtain ⟨_, hlk, hlo, hhi⟩ := hI
    have hks : lo + k < (arrOf st).size := T.size ▸ hk
    have hle := Nat.add_le_add_left hlk lo
    have ed : lo + k - (lo + k - (lo + c.2.1)) = lo + c.2.1 := Nat.sub_sub_self hle
    have eK := K_bubble hks (Nat.sub_le (lo + k) (lo + c.2.1))
    rw [ed] at eK
    rw [moveDown'_eq]
    refine wpS_bind (wpS_modify (wpS_pure (h _ (bubble_perm _ _ _) (fun j hj => ?_) (ins_sin (Nat.le_add_right _ _) hle hs hlo hhi (fun i hi => ?_) ?_ fun i a1 a2 => ?_))))
    · have hj' := Nat.lt_of_lt_of_le hj (Nat.le_add_right lo c.2.1)
      rw [eK, if_neg (Nat.ne_of_lt hj'), if_neg fun q => Nat.lt_asymm q.1 hj']
    · rw [eK, if_neg (Nat.ne_of_lt hi), if_neg fun q => Nat.lt_asymm q.1 hi]
    · rw [eK, if_pos rfl]
    · have b := Nat.lt_succ_of_le a1
      rw [eK, if_neg (Nat.ne_of_gt b), if_pos ⟨b, a2⟩, Nat.add_sub_cancel]

theorem wpS_binarySortT {st : SortSt} {lo n ok : Nat} {Q : Bool → SortSt → Prop} (T : TB a₀ st) (h0 : IntKeys a₀) (hn : lo + n ≤ a₀.size) (hok : ok ≤ n) (hs : SIn (arrOf st) lo (lo + ok))
    (h : ∀ xs, xs.Perm (arrOf st) → (∀ j, j < lo → K xs j = K (arrOf st) j) → SIn xs lo (lo + n) → Q true (Rows.setArr st xs)) :
    wpS (model prog w) A E s (binarySort' lo n ok) Q st := by
  rw [binarySort_eq2]
  refine wpS_bind (wpS_mono (wpS_forRange
    (I := fun k c st' => c.1 = none ∧ ∃ xs, st' = Rows.setArr st xs ∧ xs.Perm (arrOf st) ∧ (∀ j, j < lo → K xs j = K (arrOf st) j) ∧ SIn xs lo (lo + k))
    (Q := fun c st' => c.1 = none ∧ ∃ xs, st' = Rows.setArr st xs ∧ xs.Perm (arrOf st) ∧ (∀ j, j < lo → K xs j = K (arrOf st) j) ∧ SIn xs lo (lo + n)) (fun k c st' hak hkn hI => ?_) (fun c st' hI => ?_)
    ⟨rfl, arrOf st, rfl, Array.Perm.refl _, fun _ _ => rfl, ?_⟩) fun c st' hI => ?_)
  · obtain ⟨_, xs, rfl, hp, hl, hs'⟩ := hI
    exact bOne_ok (T.setArr hp) h0 (Nat.lt_of_lt_of_le (Nat.add_lt_add_left hkn lo) hn) hs' fun ys hp' hl' hs2 => ⟨rfl, ys, rfl, hp'.trans hp, fun j hj => (hl' j hj).trans (hl j hj), hs2⟩
  · obtain ⟨e, xs, e2, hp, hl, hs'⟩ := hI
    exact ⟨e, xs, e2, hp, hl, fun i j a1 a2 a3 => hs' i j a1 a2 (Nat.lt_of_lt_of_le a3 (Nat.add_le_add_left (Nat.le_max_right _ _) lo))⟩
  · by_cases h1 : ok = 0
    · rw [h1]; exact one_sin
    · rw [Nat.max_eq_left (Nat.pos_of_ne_zero h1)]; exact hs
  · obtain ⟨e, xs, rfl, hp, hl, hs'⟩ := hI
    rw [e]
    exact wpS_pure (h xs hp hl hs')

noncomputable def Runs (xs : Array Keyed) : List (Nat × Nat × Nat) → Nat → Nat → Prop
  | [], lo, hi => lo = hi
  | (st, n, _) :: rest, lo, hi => st = lo ∧ 0 < n ∧ SIn xs lo (lo + n) ∧ Runs xs rest (lo + n) hi

theorem Runs.le {xs : Array Keyed} : ∀ {l : List (Nat × Nat × Nat)} {lo hi : Nat}, Runs xs l lo hi → lo + l.length ≤ hi
  | [], lo, hi, h => by have : lo = hi := h
                        simp; omega
  | (st, n, _) :: rest, lo, hi, h => by
    have := h.2.2.2.le
    have := h.2.1
    rw [List.length_cons]; omega

theorem Runs.app {xs : Array Keyed} : ∀ {l m : List (Nat × Nat × Nat)} {lo hi : Nat}, Runs xs (l ++ m) lo hi ↔ ∃ mid, Runs xs l lo mid ∧ Runs xs m mid hi
  | [], m, lo, hi => ⟨fun h => ⟨lo, rfl, h⟩, fun ⟨mid, h1, h2⟩ => by rw [show lo = mid from h1]; exact h2⟩
  | (st, n, p) :: rest, m, lo, hi => by
    constructor
    · rintro ⟨h1, h2, h3, h4⟩
      obtain ⟨mid, h5, h6⟩ := Runs.app.mp h4
      exact ⟨mid, ⟨h1, h2, h3, h5⟩, h6⟩
    · rintro ⟨mid, ⟨h1, h2, h3, h5⟩, h6⟩
      exact ⟨h1, h2, h3, Runs.app.mpr ⟨mid, h5, h6⟩⟩

theorem Runs.congr {xs ys : Array Keyed} : ∀ {l : List (Nat × Nat × Nat)} {lo hi : Nat}, (∀ j, lo ≤ j → j < hi → K ys j = K xs j) → Runs xs l lo hi → Runs ys l lo hi
  | [], lo, hi, _, h => h
  | (st, n, _) :: rest, lo, hi, e, h => by
    have hle := h.2.2.2.le
    refine ⟨h.1, h.2.1, fun i j a1 a2 a3 => ?_, h.2.2.2.congr fun j a1 a2 => e j (by have := h.2.1; omega) a2⟩
    rw [e i (by omega) (by omega), e j (by omega) (by omega)]
    exact h.2.2.1 i j a1 a2 a3

theorem arr_split {p : Array (Nat × Nat × Nat)} {i : Nat} (h : i + 1 < p.size) :
    ∃ pre post sa na pw sb nb pw2, p.toList = pre ++ (sa, na, pw) :: (sb, nb, pw2) :: post ∧ pre.length = i ∧ p[i]? = some (sa, na, pw) ∧ p[i + 1]? = some (sb, nb, pw2) := by
  refine ⟨p.toList.take i, p.toList.drop (i + 2), p[i].1, p[i].2.1, p[i].2.2, p[i + 1].1, p[i + 1].2.1, p[i + 1].2.2, ?_, by simp; omega, by simp [getElem?_pos p i (by omega)], by simp [getElem?_pos p (i + 1) h]⟩
  have e1 : p.toList.drop i = p[i] :: p[i + 1] :: p.toList.drop (i + 2) := by
    rw [List.drop_eq_getElem_cons (by simp; omega), List.drop_eq_getElem_cons (by simp; omega)]
    simp
  conv => lhs; rw [← List.take_append_drop i p.toList, e1]

theorem merge_list {p : Array (Nat × Nat × Nat)} {i : Nat} {pre post : List (Nat × Nat × Nat)} {x y z : Nat × Nat × Nat} (hp : p.toList = pre ++ x :: y :: post) (hi : pre.length = i) :
    ((p.setIfInBounds i z).eraseIdxIfInBounds (i + 1)).toList = pre ++ z :: post := by
  have hl : p.size = pre.length + (post.length + 2) := by
    rw [← Array.length_toList, hp]; simp
  rw [Array.eraseIdxIfInBounds, dif_pos (by rw [Array.size_setIfInBounds]; omega), Array.toList_eraseIdx, Array.toList_setIfInBounds, hp]
  subst hi
  rw [List.set_append_right _ _ (Nat.le_refl _), Nat.sub_self, List.set_cons_zero, List.eraseIdx_append_of_length_le (by omega)]
  simp

/-- a merge keeps the runs. -/
theorem wpS_mergeAtT {st : SortSt} {i hi : Nat} {Q : Bool → SortSt → Prop} (T : TB a₀ st) (h0 : IntKeys a₀) (hi1 : i + 1 < (pendingOf st).size) (hhi : hi ≤ a₀.size)
    (hR : Runs (arrOf st) (pendingOf st).toList 0 hi)
    (h : ∀ st', TB a₀ st' → (pendingOf st').size + 1 = (pendingOf st).size → Runs (arrOf st') (pendingOf st').toList 0 hi → (∀ j, hi ≤ j → K (arrOf st') j = K (arrOf st) j) → Q true st') :
    wpS (model prog w) A E s (mergeAt' i) Q st := by
  obtain ⟨pre, post, sa, na, pw, sb, nb, pw2, hp, hl, e1, e2⟩ := arr_split hi1
  rw [hp] at hR
  obtain ⟨mid, r1, r2⟩ := Runs.app.mp hR
  obtain ⟨q1, q2, q3, q4, q5, q6, q7⟩ := r2
  subst q1
  subst q4
  have hle := q7.le
  refine wpS_mergeAt T h0 e1 e2 rfl q2 q5 (by omega) q3 q6 fun st' T' hp' hs' hk' => ?_
  have hml := merge_list (z := (sa, na + nb, pw)) hp hl
  refine h st' T' ?_ ?_ fun j hj => hk' j (.inr (by omega))
  · have z1 : (pendingOf st').size = pre.length + (post.length + 1) := by
      rw [hp', ← Array.length_toList, hml]; simp
    have z2 : (pendingOf st).size = pre.length + (post.length + 2) := by
      rw [← Array.length_toList, hp]; simp
    omega
  · rw [hp', hml]
    refine Runs.app.mpr ⟨sa, r1.congr fun j a1 a2 => hk' j (.inl a2), rfl, by omega, ?_, ?_⟩
    · rw [← Nat.add_assoc]; exact hs'
    · rw [← Nat.add_assoc]
      exact q7.congr fun j a1 a2 => hk' j (.inr a1)
end
end Mine
end
section
namespace Mine
open PySem PyProof PyProof.Rows

theorem Runs.congrP {xs : Array Keyed} : ∀ {l m : List (Nat × Nat × Nat)} {lo hi : Nat}, l.map (fun x => (x.1, x.2.1)) = m.map (fun x => (x.1, x.2.1)) → Runs xs l lo hi → Runs xs m lo hi
  | [], [], _, _, _, h => h
  | [], _ :: _, _, _, e, _ => by simp at e
  | _ :: _, [], _, _, e, _ => by simp at e
  | (st, n, p) :: l, (st', n', p') :: m, lo, hi, e, h => by
    simp only [List.map_cons, List.cons.injEq, Prod.mk.injEq] at e
    obtain ⟨⟨rfl, rfl⟩, e2⟩ := e
    exact ⟨h.1, h.2.1, h.2.2.1, h.2.2.2.congrP e2⟩

theorem ite_succ_lt {c : Prop} [Decidable c] {u v n : Nat} (h1 : u + 1 < n) (h2 : v + 1 < n) : (if c then u else v) + 1 < n := by split <;> assumption

theorem map_modify {p : Array (Nat × Nat × Nat)} (i pw : Nat) :
    p.toList.map (fun x => (x.1, x.2.1)) = (p.modify i fun (st, len, _) => (st, len, pw)).toList.map (fun x => (x.1, x.2.1)) := by
  rw [Array.toList_modify]
  apply List.ext_getElem
  · simp
  · intro n h1 h2
    simp only [List.getElem_map, List.getElem_modify]
    split <;> rfl

section
variable {prog : Program} {w : World} {A : Around} {E : Value → Shared → Prop} {s : Shared} {a₀ : Array Keyed}

theorem wpS_sortRunsT {st : SortSt} {Q : Unit → SortSt → Prop} (h0 : IntKeys a₀) (T : TB a₀ st) (hpe : pendingOf st = #[]) (h2 : 2 ≤ a₀.size)
    (h : ∀ st', (arrOf st').Perm a₀ → failedOf st' = none → SortedTo (arrOf st') a₀.size → Q () st') : wpS (model prog w) A E s sortRuns' Q st := by
  rw [sortRuns'_eq]
  refine wpS_bind (wpS_get ?_)
  dsimp only
  simp only [T.size]
  generalize minRun' a₀.size a₀.size 0 = mr
  refine wpS_bind (wpS_mono (wpS_forRange
    (I := fun x c st' => ∃ lo, c = (none, lo) ∧ TB a₀ st' ∧ Runs (arrOf st') (pendingOf st').toList 0 lo ∧ lo ≤ a₀.size ∧ (x ≤ lo))
    (Q := fun c st' => c = (none, a₀.size) ∧ TB a₀ st' ∧ Runs (arrOf st') (pendingOf st').toList 0 a₀.size) ?step ?fin ⟨0, rfl, T, by rw [hpe]; rfl, by omega, by omega⟩) ?post)
  case fin =>
    rintro c st' ⟨lo, rfl, T', hR, hle, hx⟩
    have : lo = a₀.size := by omega
    subst this
    exact ⟨rfl, T', hR⟩
  case step =>
    rintro x c st' _ hx ⟨lo, rfl, T', hR, hle, hxl⟩
    dsimp only
    by_cases hge : lo ≥ a₀.size
    · rw [if_pos hge]
      have : lo = a₀.size := by omega
      subst this
      exact wpS_pure ⟨rfl, T', hR⟩
    rw [if_neg hge]
    refine wpS_bind (wpS_countRunT T' h0 (by omega) (by omega) fun m xs hp hlow hm1 hm2 hs => ?_)
    dsimp only
    by_cases hmr : m < mr
    case' pos =>
      rw [if_pos hmr]
      refine wpS_bind (wpS_lift (wpAny_rule ⟨rfl, ?_⟩))
      refine wpS_bind (wpS_binarySortT (T'.setArr hp) h0 (by omega) (by omega) hs fun ys hpy hlowy hsy => ?_)
      simp only [Bool.not_true, Bool.false_eq_true, if_false]
      obtain ⟨st3, hst3⟩ : ∃ t, t = Rows.setArr st' ys := ⟨_, rfl⟩
      have T3 : TB a₀ st3 := by rw [hst3]; exact T'.setArr (hpy.trans hp)
      have hR3 : Runs (arrOf st3) (pendingOf st3).toList 0 lo := by rw [hst3]; exact hR.congr fun j _ a2 => (hlowy j a2).trans (hlow j a2)
      have hs3 : SIn (arrOf st3) lo (lo + min (a₀.size - lo) mr) := by rw [hst3]; exact hsy
      have hn1 : 1 ≤ min (a₀.size - lo) mr := by omega
      have hn2 : lo + min (a₀.size - lo) mr ≤ a₀.size := by omega
      show wpS _ _ _ _ _ _ (Rows.setArr st' ys)
      rw [← hst3]
      clear hst3
      generalize min (a₀.size - lo) mr = n at hs3 hn1 hn2 ⊢
    case' neg =>
      rw [if_neg hmr]
      obtain ⟨st3, hst3⟩ : ∃ t, t = Rows.setArr st' xs := ⟨_, rfl⟩
      have T3 : TB a₀ st3 := by rw [hst3]; exact T'.setArr hp
      have hR3 : Runs (arrOf st3) (pendingOf st3).toList 0 lo := by rw [hst3]; exact hR.congr fun j _ a2 => hlow j a2
      have hs3 : SIn (arrOf st3) lo (lo + m) := by rw [hst3]; exact hs
      have hn1 : 1 ≤ m := hm1
      have hn2 : lo + m ≤ a₀.size := by omega
      rw [← hst3]
      clear hst3
    all_goals
      have push : ∀ st4 : SortSt, TB a₀ st4 → Runs (arrOf st4) (pendingOf st4).toList 0 lo → ∀ n, 1 ≤ n → SIn (arrOf st4) lo (lo + n) →
          TB a₀ (setPending st4 ((pendingOf st4).push (lo, n, 0))) ∧ Runs (arrOf st4) ((pendingOf st4).push (lo, n, 0)).toList 0 (lo + n) := by
        intro st4 T4 hR4 n hn hs4
        refine ⟨⟨T4.perm, T4.kind, T4.failed⟩, ?_⟩
        rw [Array.toList_push]
        exact Runs.app.mpr ⟨lo, hR4, rfl, hn, hs4, rfl⟩
      refine wpS_bind (wpS_get ?_)
      cases hb : (pendingOf st3).back? with
      | none =>
        dsimp only
        obtain ⟨T5, hR5⟩ := push st3 T3 hR3 _ hn1 hs3
        exact wpS_bind (wpS_modify (wpS_pure ⟨_, rfl, T5, hR5, hn2, by omega⟩))
      | some last =>
        obtain ⟨s1, n1, p1⟩ := last
        dsimp only
        generalize power' _ _ _ _ = pw
        refine wpS_bind (wpS_mono (wpS_forRange
          (I := fun _ c st' => c = (none, ()) ∧ TB a₀ st' ∧ Runs (arrOf st') (pendingOf st').toList 0 lo ∧ (∀ j, lo ≤ j → K (arrOf st') j = K (arrOf st3) j))
          (Q := fun c st' => c = (none, ()) ∧ TB a₀ st' ∧ Runs (arrOf st') (pendingOf st').toList 0 lo ∧ (∀ j, lo ≤ j → K (arrOf st') j = K (arrOf st3) j)) ?_ (fun _ _ hh => hh) ⟨rfl, T3, hR3, fun _ _ => rfl⟩) ?_)
        · rintro y c st4 _ hy ⟨rfl, T4, hR4, hk4⟩
          refine wpS_bind (wpS_get ?_)
          by_cases hsz : (pendingOf st4).size > 1
          · rw [if_pos hsz, getElem?_pos (pendingOf st4) ((pendingOf st4).size - 2) (by omega)]
            dsimp only
            split
            · exact wpS_pure ⟨rfl, T4, hR4, hk4⟩
            · refine wpS_bind (wpS_mergeAtT T4 h0 (by omega) hle hR4 fun st5 T5 _ hR5 hk5 => ?_)
              simp only [Bool.not_true, Bool.false_eq_true, if_false]
              exact wpS_pure ⟨rfl, T5, hR5, fun j hj => (hk5 j hj).trans (hk4 j hj)⟩
          · rw [if_neg hsz]
            exact wpS_pure ⟨rfl, T4, hR4, hk4⟩
        · rintro c st4 ⟨rfl, T4, hR4, hk4⟩
          dsimp only
          refine wpS_bind (wpS_modify ?_)
          obtain ⟨st5, hst5⟩ : ∃ t, t = setPending st4 ((pendingOf st4).modify ((pendingOf st4).size - 1) fun x => (x.1, x.2.1, pw)) := ⟨_, rfl⟩
          rw [← hst5]
          have hR5 : Runs (arrOf st5) (pendingOf st5).toList 0 lo := by
            rw [hst5]; exact hR4.congrP (map_modify _ _)
          have T5 : TB a₀ st5 := by rw [hst5]; exact ⟨T4.perm, T4.kind, T4.failed⟩
          have hk5 : ∀ j, lo ≤ j → K (arrOf st5) j = K (arrOf st3) j := by rw [hst5]; exact hk4
          obtain ⟨T6, hR6⟩ := push st5 T5 hR5 _ hn1 (fun i j a1 a2 a3 => by rw [hk5 i a1, hk5 j (by omega)]; exact hs3 i j a1 a2 a3)
          exact wpS_bind (wpS_modify (wpS_pure ⟨_, rfl, T6, hR6, hn2, by omega⟩))
  case post =>
    rintro c st' ⟨rfl, T', hR⟩
    dsimp only
    have hsz := hR.le
    refine wpS_bind (wpS_mono (wpS_forRange
      (I := fun x c st' => c = (none, ()) ∧ TB a₀ st' ∧ Runs (arrOf st') (pendingOf st').toList 0 a₀.size ∧ ((pendingOf st').size ≤ 1 ∨ (pendingOf st').size + x ≤ a₀.size))
      (Q := fun c st' => c = (none, ()) ∧ TB a₀ st' ∧ Runs (arrOf st') (pendingOf st').toList 0 a₀.size ∧ (pendingOf st').size ≤ 1) ?_ ?_
      ⟨rfl, T', hR, .inr (by rw [Array.length_toList] at hsz; omega)⟩) ?_)
    · rintro x c st4 _ hx ⟨rfl, T4, hR4, hor⟩
      refine wpS_bind (wpS_get ?_)
      by_cases h1 : (pendingOf st4).size ≤ 1
      · rw [if_pos h1]; exact wpS_pure ⟨rfl, T4, hR4, h1⟩
      · rw [if_neg h1]
        refine wpS_bind (wpS_mergeAtT T4 h0 ?_ (Nat.le_refl _) hR4 fun st5 T5 hs5 hR5 _ => ?_)
        · exact ite_succ_lt (by omega) (by omega)
        · simp only [Bool.not_true, Bool.false_eq_true, if_false]
          exact wpS_pure ⟨rfl, T5, hR5, by omega⟩
    · rintro c st4 ⟨rfl, T4, hR4, hor⟩
      exact ⟨rfl, T4, hR4, by omega⟩
    · rintro c st4 ⟨rfl, T4, hR4, h1⟩
      refine wpS_pure (h st4 T4.perm T4.failed ?_)
      have hl : (pendingOf st4).toList.length ≤ 1 := by rw [Array.length_toList]; exact h1
      match hq : (pendingOf st4).toList, hl with
      | [], _ =>
        rw [hq] at hR4
        have : 0 = a₀.size := hR4
        omega
      | [(s1, n1, p1)], _ =>
        rw [hq] at hR4
        obtain ⟨r1, r2, r3, r4⟩ := hR4
        have r5 : 0 + n1 = a₀.size := r4
        rw [r5] at r3
        exact fun i j a1 a2 => r3 i j (Nat.zero_le _) a1 a2
end
end Mine
end
section
namespace Mine
open PySem PyProof PyProof.Rows
set_option maxRecDepth 100000

section
variable {prog : Program} {w : World} {A : Around} {E : Value → Shared → Prop} {s : Shared}

/-- list.sort of whole numbers, as many as may be -/
theorem sort_any {a : Addr} {vs : List Value} {ns : List Int} {n : Nat} {P : Fin → Shared → Prop} (ho : s.heap.get? a = some (seqObj "list" vs.toArray n))
    (hI : IntsAre vs ns) (hz : vs.length ≤ sizeLine)
    (h : ∀ (out : Array Value) (ns' : List Int), IntsAre out.toList ns' → ns'.Perm ns → ns'.Pairwise (· ≤ ·) → P (.done (.ret .none)) { s with heap := sortedHeap s.heap a vs out }) :
    wpAny (model prog w) A (Builtin.«list.sort» ⟨[.ref a], []⟩) P E s := by
  have hsz : vs.toArray.size = vs.length := by simp
  by_cases hsm : vs.length < 64
  · exact list_sort_tree ho hI hsm h
  obtain ⟨v₁, v₂, rest, rfl⟩ : ∃ v₁ v₂ rest, vs = v₁ :: v₂ :: rest := by
    match vs, hsm with
    | [], h2 => simp at h2
    | [_], h2 => simp at h2
    | v₁ :: v₂ :: rest, _ => exact ⟨v₁, v₂, rest, rfl⟩
  have ha : a < s.heap.objs.size := Heap.lt_size ho
  rw [list_sort_plain]
  refine wpAny_bind (listItems_at ho rfl ?_)
  refine wpAny_bind (listUpdate_at ho rfl ?_ (by rw [hsz]; exact hz) (by simp))
  obtain ⟨e1, ho1⟩ : ∃ e1, (s.heap.update a (Obj.mapSeq fun _ => #[])).get? a = some (seqObj "list" #[] e1) := ⟨_, get?_update_seq ho (fun _ => #[])⟩
  refine wpAny_bind (seqEpoch_at ho1 rfl ?_)
  refine wpAny_bind (wpAny_newTuple ?_ hz)
  refine wpAny_bind (wpAny_newList ?_)
  refine wpAny_holding ?_
  have ho6 : (((s.heap.update a (Obj.mapSeq fun _ => #[])).push (seqObj "tuple" (v₁ :: v₂ :: rest).toArray 0)).push (seqObj "list" #[] 0)).get? a = some (seqObj "list" #[] e1) := by
    rw [Heap.get?_push_ne _ _ _ (by rw [size_push', Heap.size_update]; exact Nat.ne_of_lt (Nat.lt_succ_of_lt ha)), Heap.get?_push_ne _ _ _ (by rw [Heap.size_update]; exact Nat.ne_of_lt ha)]
    exact ho1
  show wpAny (model prog w) A _ P E { s with heap := ((s.heap.update a (Obj.mapSeq fun _ => #[])).push (seqObj "tuple" (v₁ :: v₂ :: rest).toArray 0)).push (seqObj "list" #[] 0) }
  dsimp only
  have h2 : ¬ (v₁ :: v₂ :: rest).toArray.size < 2 := by simp
  rw [if_neg h2, if_neg h2, keyKind_ints hI]
  refine wpAny_bind (wpAny_pure ?_)
  refine wpAny_bind (wpAny_mono (wpS_sortRunsT (a₀ := pairsOf (v₁ :: v₂ :: rest)) (st := SortSt.mk' oneType' ((v₁ :: v₂ :: rest).toArray.zip (v₁ :: v₂ :: rest).toArray) #[] 7 none)
    (Q := fun _ st' => (arrOf st').Perm (pairsOf (v₁ :: v₂ :: rest)) ∧ failedOf st' = none ∧ SortedTo (arrOf st') (pairsOf (v₁ :: v₂ :: rest)).size)
    hI.intKeys ⟨Array.Perm.refl _, rfl, rfl⟩ rfl (by rw [pairsOf_size]; simp) fun st' a1 a2 a3 => ⟨a1, a2, a3⟩) ?_ fun _ _ e => e)
  rintro ⟨⟨⟩, st'⟩ s' ⟨rfl, hp, hf, hs⟩
  dsimp only
  refine wpAny_bind (seqEpoch_at ho6 rfl ?_)
  refine wpAny_bind (listUpdate_at ho6 rfl ?_ (by simp) (by
    refine Nat.le_trans (Nat.le_of_eq ((Array.size_map ..).trans (hp.size_eq.trans (pairsOf_size _)))) ?_
    exact Nat.le_succ_of_le hz))
  rw [hf]
  simp only [bne_self_eq_false, Bool.false_eq_true, if_false]
  obtain ⟨ns', a1, a2, a3⟩ := sorted_out hI hp hs
  exact wpAny_pure (h _ ns' a1 a2 a3)
end
end Mine
end
section
open PySem PyProof.Rows
set_option Elab.async false
namespace Mine

/-- plain data; `obj a` is a reference to a mutable object of the store -/
inductive D where
  | none
  | bool (b : Bool)
  | int (i : Int)
  | str (x : Str)
  | tuple (xs : List D)
  | list (xs : List D)
  | obj (a : Addr)

/-- mutable objects -/
inductive MObj where
  | mlist (ds : List D)
  | inst (C dx : Addr) (fs : List (Str × D))
  | mdict (kvs : List (Int × D))

noncomputable abbrev Store := Addr → Option MObj
noncomputable def dom (σ : Store) (a : Addr) : Prop := σ a ≠ Option.none ∨ ∃ x C fs, σ x = some (.inst C a fs)

mutual
noncomputable def Rep (N : Addr → Prop) (h : Heap) : D → Value → Prop
  | .none, v => v = .none
  | .bool b, v => v = .bool b
  | .int i, v => ∃ t, v = .int i t
  | .str x, v => ∃ t, v = .str x t
  | .tuple ds, v => ∃ a vs, v = .ref a ∧ N a ∧ h.IsTuple a vs ∧ RepL N h ds vs.toList
  | .list ds, v => ∃ a vs, v = .ref a ∧ N a ∧ h.IsList a vs ∧ RepL N h ds vs.toList
  | .obj a, v => v = .ref a
noncomputable def RepL (N : Addr → Prop) (h : Heap) : List D → List Value → Prop
  | [], vs => vs = []
  | d :: ds, vs => ∃ v r, vs = v :: r ∧ Rep N h d v ∧ RepL N h ds r
end

/-- objects that are never changed: sequences -/
noncomputable def still (o : Obj) : Prop := ∃ items n, o.data = .seq items n
noncomputable def Stay (N N' : Addr → Prop) (h h' : Heap) : Prop :=
  ∀ a o, N a → h.get? a = some o → still o → h'.get? a = some o ∧ N' a

mutual
theorem Rep.stay {N N' : Addr → Prop} {h h' : Heap} (k : Stay N N' h h') : ∀ (d : D) (v : Value), Rep N h d v → Rep N' h' d v
  | .none, v, x => by simp only [Rep] at x ⊢; exact x
  | .bool b, v, x => by simp only [Rep] at x ⊢; exact x
  | .int i, v, x => by simp only [Rep] at x ⊢; exact x
  | .str i, v, x => by simp only [Rep] at x ⊢; exact x
  | .obj i, v, x => by simp only [Rep] at x ⊢; exact x
  | .tuple ds, v, x => by
    simp only [Rep] at x ⊢
    obtain ⟨a, vs, e, hN, ⟨o, ho, hc, n, hd⟩, hr⟩ := x
    obtain ⟨h1, h2⟩ := k a o hN ho ⟨vs, n, hd⟩
    exact ⟨a, vs, e, h2, ⟨o, h1, hc, n, hd⟩, RepL.stay k ds _ hr⟩
  | .list ds, v, x => by
    simp only [Rep] at x ⊢
    obtain ⟨a, vs, e, hN, ⟨o, ho, hc, n, hd⟩, hr⟩ := x
    obtain ⟨h1, h2⟩ := k a o hN ho ⟨vs, n, hd⟩
    exact ⟨a, vs, e, h2, ⟨o, h1, hc, n, hd⟩, RepL.stay k ds _ hr⟩
theorem RepL.stay {N N' : Addr → Prop} {h h' : Heap} (k : Stay N N' h h') : ∀ (ds : List D) (vs : List Value), RepL N h ds vs → RepL N' h' ds vs
  | [], vs, x => by simp only [RepL] at x ⊢; exact x
  | d :: ds, vs, x => by
    simp only [RepL] at x ⊢
    obtain ⟨v, r, e, h1, h2⟩ := x
    exact ⟨v, r, e, Rep.stay k d v h1, RepL.stay k ds r h2⟩
end

theorem RepL.length {N : Addr → Prop} {h : Heap} : ∀ {ds : List D} {vs : List Value}, RepL N h ds vs → vs.length = ds.length
  | [], vs, x => by simp only [RepL] at x; subst x; rfl
  | d :: ds, vs, x => by
    simp only [RepL] at x
    obtain ⟨v, r, rfl, _, h2⟩ := x
    simp [RepL.length h2]
theorem RepL.get {N : Addr → Prop} {h : Heap} : ∀ {ds : List D} {vs : List Value}, RepL N h ds vs → ∀ {i : Nat} {d : D}, ds[i]? = some d → ∃ v, vs[i]? = some v ∧ Rep N h d v
  | [], vs, x, i, d, e => by simp at e
  | d :: ds, vs, x, i, d', e => by
    simp only [RepL] at x
    obtain ⟨v, r, rfl, h1, h2⟩ := x
    cases i with
    | zero => simp at e; subst e; exact ⟨v, rfl, h1⟩
    | succ i => simp at e; obtain ⟨u, hu, hr⟩ := RepL.get h2 e; exact ⟨u, by simpa using hu, hr⟩
theorem RepL.append {N : Addr → Prop} {h : Heap} : ∀ {ds es : List D} {vs us : List Value}, RepL N h ds vs → RepL N h es us → RepL N h (ds ++ es) (vs ++ us)
  | [], es, vs, us, x, y => by simp only [RepL] at x; subst x; simpa using y
  | d :: ds, es, vs, us, x, y => by
    simp only [RepL] at x
    obtain ⟨v, r, rfl, h1, h2⟩ := x
    exact ⟨v, r ++ us, rfl, h1, RepL.append h2 y⟩
theorem RepL.nil {N : Addr → Prop} {h : Heap} : RepL N h [] [] := by simp [RepL]
theorem RepL.cons {N : Addr → Prop} {h : Heap} {d ds v vs} (x : Rep N h d v) (y : RepL N h ds vs) : RepL N h (d :: ds) (v :: vs) := by simp only [RepL]; exact ⟨v, vs, rfl, x, y⟩
theorem RepL.one {N : Addr → Prop} {h : Heap} {d v} (x : Rep N h d v) : RepL N h [d] [v] := .cons x .nil
theorem RepL.split {N : Addr → Prop} {h : Heap} : ∀ {ds es : List D} {vs : List Value}, RepL N h (ds ++ es) vs → ∃ us ws, vs = us ++ ws ∧ RepL N h ds us ∧ RepL N h es ws
  | [], es, vs, x => ⟨[], vs, rfl, .nil, by simpa using x⟩
  | d :: ds, es, vs, x => by
    simp only [List.cons_append, RepL] at x
    obtain ⟨v, r, rfl, h1, h2⟩ := x
    obtain ⟨us, ws, rfl, a, b⟩ := RepL.split h2
    exact ⟨v :: us, ws, rfl, .cons h1 a, b⟩

/-- where plain data may lie: not in the store, not in the protected set -/
noncomputable def nd (σ : Store) (P : Addr → Prop) (a : Addr) : Prop := ¬ dom σ a ∧ ¬ P a

/-- entries of a namespace: names and values -/
noncomputable def EntS : List DictEntry → List Str → List Value → Prop
  | [], [], [] => True
  | e :: es, k :: ks, v :: vs => (∃ t, e.key = .str k t) ∧ e.val = v ∧ EntS es ks vs
  | _, _, _ => False
/-- entries of a dict with whole numbers as keys -/
noncomputable def EntI : List DictEntry → List Int → List Value → Prop
  | [], [], [] => True
  | e :: es, k :: ks, v :: vs => (∃ t, e.key = .int k t) ∧ e.hash = hashInt k ∧ e.val = v ∧ EntI es ks vs
  | _, _, _ => False

/-- what a mutable object is in the heap -/
noncomputable def MRep (σ : Store) (P : Addr → Prop) (h : Heap) (a : Addr) : MObj → Prop
  | .mlist ds => ∃ vs, h.PlainList a vs ∧ RepL (nd σ P) h ds vs.toList
  | .inst C dx fs => ∃ (n : Nat) (es : List DictEntry) (vs : List Value), h.get? a = some ({ cls := .ref C, dict := some dx, data := .plain } : Obj) ∧ h.get? dx = some ({ cls := .type "dict", data := .dict es.toArray n } : Obj) ∧ EntS es (fs.map (·.1)) vs ∧ es.length ≤ 1000 ∧
      RepL (nd σ P) h (fs.map (·.2)) vs ∧ (fs.map (·.1)).Nodup ∧ dx ≠ a
  | .mdict kvs => ∃ (n : Nat) (es : List DictEntry) (vs : List Value), h.get? a = some ({ cls := .type "dict", data := .dict es.toArray n } : Obj) ∧ EntI es (kvs.map (·.1)) vs ∧ RepL (nd σ P) h (kvs.map (·.2)) vs ∧ (kvs.map (·.1)).Nodup ∧ a ≠ sysModules

structure StoreOk (σ : Store) (P : Addr → Prop) (h : Heap) : Prop where
  rep : ∀ a mo, σ a = some mo → MRep σ P h a mo
  apart : ∀ x C dx fs, σ x = some (.inst C dx fs) → σ dx = Option.none ∧ ∀ y C' fs', σ y = some (.inst C' dx fs') → y = x
  free : ∀ a, dom σ a → ¬ P a

/-- frames of the stack -/
noncomputable def WL (l : List Env) (a : Addr) : Prop := ∃ e ∈ l, e.frame = some a

/-- what a run may do to the state: frame objects F and the store may change; of the stack's frames W the slots may -/
structure Step (W F : Addr → Prop) (σ σ' : Store) (s s' : Shared) : Prop where
  same : ∃ h' tk, s' = { s with heap := h', toks := tk }
  keep : ∀ a o, s.heap.get? a = some o → ¬ dom σ a → ¬ F a → ¬ W a → s'.heap.get? a = some o
  slot : ∀ a o, s.heap.get? a = some o → W a → ¬ dom σ a → ¬ F a → ∃ sl, s'.heap.get? a = some { o with slots := sl }
  alive : ∀ a o, s.heap.get? a = some o → ∃ o', s'.heap.get? a = some o'
  new : ∀ a, dom σ' a → dom σ a ∨ s.heap.get? a = Option.none

noncomputable abbrev noF : Addr → Prop := fun _ => False

theorem Step.refl (W F σ s) : Step W F σ σ s s := ⟨⟨s.heap, s.toks, rfl⟩, fun _ _ e _ _ _ => e, fun _ o e _ _ _ => ⟨o.slots, e⟩, fun _ o e => ⟨o, e⟩, fun _ x => .inl x⟩
theorem Step.trans {W F σ σ₁ σ₂ s s₁ s₂} (x : Step W F σ σ₁ s s₁) (y : Step W F σ₁ σ₂ s₁ s₂) : Step W F σ σ₂ s s₂ := by
  have nd : ∀ a o, s.heap.get? a = some o → ¬ dom σ a → ¬ dom σ₁ a := fun a o e hd h1 => (x.new a h1).elim hd (fun hn => by rw [hn] at e; cases e)
  refine ⟨?_, fun a o e hd hf hw => y.keep a o (x.keep a o e hd hf hw) (nd a o e hd) hf hw, fun a o e hw hd hf => ?_, fun a o e => ?_, fun a ha => ?_⟩
  · obtain ⟨h₁, t₁, rfl⟩ := x.same
    obtain ⟨h₂, t₂, rfl⟩ := y.same
    exact ⟨h₂, t₂, rfl⟩
  · obtain ⟨sl, h1⟩ := x.slot a o e hw hd hf
    obtain ⟨sl', h2⟩ := y.slot a _ h1 hw (nd a o e hd) hf
    exact ⟨sl', h2⟩
  · obtain ⟨o', e'⟩ := x.alive a o e
    exact y.alive a o' e'
  · rcases y.new a ha with h | h
    · exact x.new a h
    · right
      cases e : s.heap.get? a with
      | none => rfl
      | some o => obtain ⟨o', e'⟩ := x.alive a o e; rw [h] at e'; cases e'
theorem Step.weak {W F F' σ σ' s s'} (x : Step W F σ σ' s s') (h : ∀ a, F a → F' a) : Step W F' σ σ' s s' := ⟨x.same, fun a o e hd hf => x.keep a o e hd (fun q => hf (h a q)), fun a o e hw hd hf => x.slot a o e hw hd (fun q => hf (h a q)), x.alive, x.new⟩
theorem Step.of_keeps {W F σ s s'} (x : Keeps s s') : Step W F σ σ s s' := by
  obtain ⟨h', tk, rfl, hk⟩ := x
  exact ⟨⟨h', tk, rfl⟩, fun a o e _ _ _ => hk a o e, fun a o e _ _ _ => ⟨o.slots, hk a o e⟩, fun a o e => ⟨o, hk a o e⟩, fun _ h => .inl h⟩
theorem Step.mk' {W F σ σ' s s'} (same : ∃ h' tk, s' = { s with heap := h', toks := tk }) (keep : ∀ a o, s.heap.get? a = some o → ¬ dom σ a → ¬ F a → s'.heap.get? a = some o)
    (alive : ∀ a o, s.heap.get? a = some o → ∃ o', s'.heap.get? a = some o') (new : ∀ a, dom σ' a → dom σ a ∨ s.heap.get? a = Option.none) : Step W F σ σ' s s' :=
  ⟨same, fun a o e hd hf _ => keep a o e hd hf, fun a o e _ hd hf => ⟨o.slots, keep a o e hd hf⟩, alive, new⟩
theorem Step.stay {W σ σ' s s'} {P : Addr → Prop} (x : Step W noF σ σ' s s') (hw : ∀ a, W a → P a) : Stay (nd σ P) (nd σ' P) s.heap s'.heap := fun a o hN ho _ =>
  ⟨x.keep a o ho hN.1 (fun h => h) (fun h => hN.2 (hw a h)), fun h => (x.new a h).elim hN.1 (fun e => by rw [e] at ho; cases ho), hN.2⟩

structure Bx where
  prog : Program
  w : World
  b : Heap
  mg : Str → Option Value
  mb : Str → Option Value
  hg : b.Ns mainGlobals mg
  hb : b.Ns builtinsNs mb
  hl : b.NoLimit
  K : PySem.W.Frag
  KX : K.In b

noncomputable def Bx.glob (c : Bx) (x : Str) : Option Value := (c.mg x).or (c.mb x)
noncomputable abbrev Bx.M (c : Bx) : Model := model c.prog c.w

/-- the frames of the stack stand -/
noncomputable def Frs (h : Heap) (l : List Env) : Prop := ∀ e ∈ l, e.scope.kind ≠ .module ∧ ∃ L o, e.frame = some L ∧ h.get? L = some o ∧ ∀ vs, o.data ≠ .fields vs

/-- an exception of class C on its way at the foremost frame of l: new against h₀; just made, or noted -/
noncomputable def Fly (l : List Env) (h₀ : Heap) (e C : Addr) (h : Heap) : Prop :=
  h₀.get? e = Option.none ∧ ((∃ h₁ vs, Heap.MadeExcOf h₁ h e (.ref C) vs ∧ ∀ a o, h₀.get? a = some o → ∃ o', h₁.get? a = some o') ∨
    ∃ a0 fl, h.TracedAtW h₀ e (.ref C) a0 fl ∧ (fl = .none ∨ ∃ env r L, l = env :: r ∧ env.frame = some L ∧ fl = rawInt L))

/-- a place: the frames of the stack, where exceptions go, which may come, and the state since which all is told -/
structure Cx extends Bx where
  l : List Env
  E : Value → Shared → Prop
  X : Addr → Store → Prop
  cur : Option (Nat × Addr)
  F₀ : Addr → Prop
  σ₀ : Store
  s₀ : Shared
  P₀ : Addr → Prop
  exc : ∀ e C σ' s', X C σ' → Step (WL l) F₀ σ₀ σ' s₀ s' → StoreOk σ' P₀ s'.heap → Frs s'.heap l → Fly l s₀.heap e C s'.heap → E (.ref e) s'
noncomputable abbrev Cx.W (c : Cx) : Addr → Prop := WL c.l

noncomputable def Room (n : Nat) (A : Around) : Prop := A.handled = Option.none ∧ A.depth + n ≤ 900 ∧ A.units + 10 * n + 500 ≤ 9000

theorem Room.deeper {n : Nat} {A : Around} (h : Room (n + 1) A) (env : Env) : Room n (A.deeper env) := by
  obtain ⟨a, b, d⟩ := h
  refine ⟨a, ?_, ?_⟩
  · show A.depth + 1 + n ≤ 900; omega
  · show A.units + 3 + 10 * n + 500 ≤ 9000; omega
theorem Room.le {n m : Nat} {A : Around} (h : Room n A) (hm : m ≤ n) : Room m A := ⟨h.1, by have := h.2.1; omega, by have := h.2.2; omega⟩
theorem Room.in1 {n : Nat} {A : Around} (h : Room (n + 1) A) : Room n A.in1 := by
  obtain ⟨a, b, d⟩ := h
  exact ⟨a, by show A.depth + n ≤ 900; omega, by show A.units + 1 + 10 * n + 500 ≤ 9000; omega⟩

noncomputable abbrev PEnv := List (Option D)
noncomputable def PEnv.at : PEnv → Nat → Option D
  | [], _ => Option.none
  | d :: _, 0 => d
  | _ :: r, i + 1 => PEnv.at r i
noncomputable def PEnv.put : PEnv → Nat → D → PEnv
  | [], _, _ => []
  | _ :: r, 0, d => some d :: r
  | e :: r, i + 1, d => e :: PEnv.put r i d
theorem PEnv.at_put : ∀ (ρ : PEnv) (i j : Nat) (d e : D), (ρ.put i d).at j = some e → (j = i ∧ e = d) ∨ (j ≠ i ∧ ρ.at j = some e)
  | [], i, j, d, e, h => by simp [PEnv.put, PEnv.at] at h
  | x :: r, 0, 0, d, e, h => by simp [PEnv.put, PEnv.at] at h; exact .inl ⟨rfl, h.symm⟩
  | x :: r, 0, j + 1, d, e, h => by simp [PEnv.put, PEnv.at] at h; exact .inr ⟨by omega, by simpa [PEnv.at] using h⟩
  | x :: r, i + 1, 0, d, e, h => by simp [PEnv.put, PEnv.at] at h; exact .inr ⟨by omega, by simpa [PEnv.at] using h⟩
  | x :: r, i + 1, j + 1, d, e, h => by
    simp [PEnv.put, PEnv.at] at h
    rcases PEnv.at_put r i j d e h with ⟨a, b⟩ | ⟨a, b⟩
    · exact .inl ⟨by omega, b⟩
    · exact .inr ⟨by omega, by simpa [PEnv.at] using b⟩

noncomputable def VarIs (env : Env) (h : Heap) (x : Str) (v : Value) : Prop :=
  (env.kindOf x = some .local ∧ ∃ m, h.Ns env.locals m ∧ m x = some v) ∨ (env.kindOf x = some .cell ∧ ∃ ca, env.cells.lookup x = some ca ∧ h.IsCell ca (some v))

noncomputable def FrA (env : Env) (a : Addr) : Prop := a = env.locals ∨ ∃ x, env.cells.lookup x = some a

/-- the shape of a frame's names -/
structure EnvOk (nm : Nat → Str) (vs : List Nat) (env : Env) : Prop where
  kind : env.scope.kind = .function
  globals : env.globals = mainGlobals
  builtins : env.builtins = builtinsNs
  inj : ∀ i ∈ vs, ∀ j ∈ vs, nm i = nm j → i = j
  kinds : ∀ i ∈ vs, env.kindOf (nm i) = some .local ∨ (env.kindOf (nm i) = some .cell ∧ ∃ ca, env.cells.lookup (nm i) = some ca)
  dbg : ∀ i ∈ vs, (nm i == ("__debug__" : Str)) = false
  apart : env.cells.Pairwise fun x y => x.2 ≠ y.2

structure Good (c : Cx) (nm : Nat → Str) (vs : List Nat) (env : Env) (ρ : PEnv) (σ : Store) (P : Addr → Prop) (s : Shared) : Prop where
  base : ∀ a o, c.b.get? a = some o → s.heap.get? a = some o
  ns : ∃ m, s.heap.Ns env.locals m
  cell : ∀ x ca, env.cells.lookup x = some ca → ∃ v, s.heap.IsCell ca v
  var : ∀ i d, ρ.at i = some d → i ∈ vs ∧ ∃ v, VarIs env s.heap (nm i) v ∧ Rep (nd σ P) s.heap d v
  st : StoreOk σ P s.heap
  own : ∀ a, dom σ a → c.b.get? a = Option.none ∧ ¬ FrA env a
  fresh : ∀ a, FrA env a → c.b.get? a = Option.none
  prot : ∀ a, P a → ∃ o, s.heap.get? a = some o
  wp : ∀ a, c.W a → P a
  wb : ∀ a, c.W a → c.b.get? a = Option.none
  fr : Frs s.heap c.l
  p0 : ∀ a, c.P₀ a → P a
  since : Step c.W c.F₀ c.σ₀ σ c.s₀ s
  cur : ∀ i C, c.cur = some (i, C) → i ∈ vs ∧ ∃ a o, VarIs env s.heap (nm i) (.ref a) ∧ nd σ P a ∧ s.heap.get? a = some o ∧ o.cls = .ref C ∧ ∃ fs, o.data = .fields fs

theorem Frs.step {W F σ σ' s s'} {l : List Env} (x : Frs s.heap l) (st : Step W F σ σ' s s') (hw : ∀ a, WL l a → W a) (hd : ∀ a, WL l a → ¬ dom σ a) (hf : ∀ a, WL l a → ¬ F a) : Frs s'.heap l := fun e he => by
  obtain ⟨k, L, o, h1, h2, h3⟩ := x e he
  obtain ⟨sl, h4⟩ := st.slot L o h2 (hw L ⟨e, he, h1⟩) (hd L ⟨e, he, h1⟩) (hf L ⟨e, he, h1⟩)
  exact ⟨k, L, _, h1, h4, h3⟩
theorem VarIs.keep {env : Env} {h h' : Heap} {x : Str} {v : Value} (y : VarIs env h x v) (k : ∀ a o, FrA env a → h.get? a = some o → ∃ sl, h'.get? a = some { o with slots := sl }) : VarIs env h' x v := by
  rcases y with ⟨a, m, hn, hm⟩ | ⟨a, ca, hc, o, ho, hd⟩
  · refine .inl ⟨a, m, ?_, hm⟩
    obtain ⟨o, es, ep, h1, h2, h3⟩ := hn
    obtain ⟨sl, h4⟩ := k _ o (.inl rfl) h1
    exact ⟨_, es, ep, h4, h2, h3⟩
  · obtain ⟨sl, h4⟩ := k ca o (.inr ⟨x, hc⟩) ho
    exact .inr ⟨a, ca, hc, _, h4, hd⟩
theorem VarIs.keep' {env : Env} {h h' : Heap} {x : Str} {v : Value} (y : VarIs env h x v) (k : ∀ a o, FrA env a → h.get? a = some o → h'.get? a = some o) : VarIs env h' x v := y.keep fun a o ha e => ⟨o.slots, k a o ha e⟩

theorem Good.fr_alive {c nm vs env ρ σ P s} (g : Good c nm vs env ρ σ P s) {a : Addr} (h : FrA env a) : ∃ o, s.heap.get? a = some o ∧ (∀ items n, o.data ≠ .seq items n) ∧ ∀ fs, o.data ≠ .fields fs := by
  rcases h with rfl | ⟨x, hx⟩
  · obtain ⟨m, o, es, ep, ho, hd, _⟩ := g.ns
    exact ⟨o, ho, ⟨fun items n e => (by rw [hd] at e; cases e), fun fs e => (by rw [hd] at e; cases e)⟩⟩
  · obtain ⟨v, o, ho, hd⟩ := g.cell x a hx
    exact ⟨o, ho, ⟨fun items n e => (by rw [hd] at e; cases e), fun fs e => (by rw [hd] at e; cases e)⟩⟩
theorem Good.w_dom {c nm vs env ρ σ P s} (g : Good c nm vs env ρ σ P s) : ∀ a, c.W a → ¬ dom σ a := fun a ha hd => g.st.free a hd (g.wp a ha)

theorem Good.next {c nm vs env ρ σ σ' P s s'} (g : Good c nm vs env ρ σ P s) (st : Step c.W noF σ σ' s s') (ok : StoreOk σ' P s'.heap) : Good c nm vs env ρ σ' P s' := by
  have kf : ∀ a o, FrA env a → s.heap.get? a = some o → ∃ sl, s'.heap.get? a = some { o with slots := sl } := fun a o ha e => by
    have hd : ¬ dom σ a := fun hd => (g.own a hd).2 ha
    by_cases hw : c.W a
    · exact st.slot a o e hw hd (fun h => h)
    · exact ⟨o.slots, st.keep a o e hd (fun h => h) hw⟩
  refine ⟨fun a o e => st.keep a o (g.base a o e) (fun hd => by rw [(g.own a hd).1] at e; cases e) (fun h => h) (fun hw => by rw [g.wb a hw] at e; cases e), ?_, fun x ca hx => ?_, fun i d e => ?_, ok, fun a ha => ?_, g.fresh, fun a ha => ?_, g.wp, g.wb,
    g.fr.step st (fun _ h => h) g.w_dom (fun _ _ h => h), g.p0, g.since.trans (st.weak fun _ h => h.elim), fun i C hc => ?_⟩
  · obtain ⟨m, o, es, ep, h1, h2, h3⟩ := g.ns
    obtain ⟨sl, h4⟩ := kf _ o (.inl rfl) h1
    exact ⟨m, _, es, ep, h4, h2, h3⟩
  · obtain ⟨v, o, ho, hd⟩ := g.cell x ca hx
    obtain ⟨sl, h4⟩ := kf ca o (.inr ⟨x, hx⟩) ho
    exact ⟨v, _, h4, hd⟩
  · obtain ⟨hi, v, hv, hr⟩ := g.var i d e
    exact ⟨hi, v, hv.keep kf, Rep.stay (st.stay g.wp) d v hr⟩
  · rcases st.new a ha with h | h
    · exact g.own a h
    · refine ⟨?_, fun hf => ?_⟩
      · cases e : c.b.get? a with
        | none => rfl
        | some o => rw [g.base a o e] at h; cases h
      · obtain ⟨o, ho, _⟩ := g.fr_alive hf
        rw [ho] at h; cases h
  · obtain ⟨o, ho⟩ := g.prot a ha
    exact st.alive a o ho
  · obtain ⟨h0, a, o, h1, h2, h3, h4⟩ := g.cur i C hc
    exact ⟨h0, a, o, h1.keep kf, ⟨fun q => (st.new a q).elim h2.1 (fun e => by rw [e] at h3; cases h3), h2.2⟩, st.keep a o h3 h2.1 (fun h => h) (fun hw => h2.2 (g.wp a hw)), h4⟩

end Mine
end
section
open PySem PyProof.Rows
set_option Elab.async false
namespace Mine

/-- built-in functions and types that are called by their names -/
inductive BI where
  | len | list | sorted | lenD | listD | tupleA
noncomputable def BI.val : BI → Value
  | .len => .builtin "len"
  | .list => .type "list"
  | .sorted => .builtin "sorted"
  | .lenD => .builtin "len"
  | .listD => .type "list"
  | .tupleA => .type "tuple"
/-- methods of lists and dicts -/
inductive LM where
  | dpop
noncomputable def LM.name : LM → String
  | .dpop => "pop"
inductive TY where
  | int | bool | list | tuple
noncomputable def TY.name : TY → String
  | .int => "int"
  | .bool => "bool"
  | .list => "list"
  | .tuple => "tuple"

set_option genInjectivity false
set_option genSizeOf false
set_option genSizeOfSpec false
mutual
inductive PE where
  | var (i : Nat) (p : Pos)
  | cint (i : Int) (p : Pos)
  | cnone (p : Pos)
  | cbool (b : Bool) (p : Pos)
  | cstr (x : Str) (p : Pos)
  | bin (op : Operator) (l r : PE) (p : Pos)
  | not (e : PE) (p : Pos)
  | bop (op : BoolOp) (es : List PE) (p : Pos)
  | cmp (op : CmpOp) (l r : PE) (p : Pos)
  | cmp2 (o₁ o₂ : CmpOp) (a b c : PE) (p : Pos)
  | call (g : Nat) (gp : Pos) (args : List PE) (p : Pos)
  | bi (b : BI) (m : Bool) (g : Nat) (gp : Pos) (args : List PE) (p : Pos)
  | isi (e : PE) (ty : TY) (g : Nat) (gp : Pos) (gt : Nat) (tp p : Pos)
  | isi2 (e : PE) (g : Nat) (gp : Pos) (g₁ : Nat) (p₁ : Pos) (g₂ : Nat) (p₂ : Pos) (k : Nat) (tp p : Pos)
  | isx (i : Nat) (ip : Pos) (cs os : List Nat) (g : Nat) (gp : Pos) (gt : Nat) (tp p : Pos)
  | sub (o i : PE) (p : Pos)
  | slc (m : Bool) (o : PE) (lo hi : Option PE) (sp p : Pos)
  | list (m : Bool) (es : List PE) (p : Pos)
  | tup (es : List PE) (k : Nat) (p : Pos)
  | app (o : PE) (ap : Pos) (e : PE) (p : Pos)
  | gint (g : Nat) (i : Int) (gp : Pos)
  | attr (C : Nat) (o : PE) (name : Str) (p : Pos)
  | meth (C g : Nat) (o : PE) (name : Str) (ap : Pos) (args : List PE) (p : Pos)
  | new (C gi g : Nat) (gp : Pos) (args : List PE) (p : Pos)
  | lm (k : LM) (o : PE) (ap : Pos) (args : List PE) (p : Pos)
  | dct (p : Pos)
  | subd (o i : PE) (p : Pos)
  | skeys (m : Bool) (g : Nat) (gp : Pos) (o : PE) (ap p' p : Pos)
  | comp (m : Bool) (elt : PE) (x : Nat) (xp : Pos) (it : IT) (ifs : List PE) (sc : Scope) (fr : List Nat) (p : Pos)
inductive IT where
  | of (e : PE)
  | range (g : Nat) (gp : Pos) (e : PE) (p : Pos)
end

mutual
inductive PS where
  | assign (x : Nat) (xp : Pos) (e : PE) (p : Pos)
  | expr (e : PE) (p : Pos)
  | ite (t : PE) (b o : List PS) (p : Pos)
  | loop (x : Nat) (xp : Pos) (it : IT) (b : List PS) (p : Pos)
  | ret (e : PE) (p : Pos)
  | sattr (C : Nat) (o : PE) (name : Str) (ap : Pos) (e : PE) (p : Pos)
  | ssub (o i : PE) (sp : Pos) (e : PE) (p : Pos)
  | raise (C g : Nat) (gp : Pos) (x : Str) (mp cp p : Pos)
  | try (b : List PS) (hs : List HD) (p : Pos)
/-- handlers: the class's global name and the suite; with a name that is bound: what is given back -/
inductive HD where
  | mk (cs os : List Nat) (g : Nat) (gp : Pos) (b : List PS) (p : Pos)
  | as (cs os : List Nat) (g : Nat) (gp : Pos) (x : Nat) (e : PE) (rp p : Pos)
end

set_option genInjectivity true
set_option genSizeOf true
set_option genSizeOfSpec true
/-- names: of variables, of globals -/
structure Nms where
  nm : Nat → Str
  gn : Nat → Str

mutual
noncomputable def emb (N : Nms) : PE → Expr
  | .var i p => .Name (N.nm i) p
  | .cint i p => .Constant (.int i) 0 p
  | .cnone p => .Constant .none 0 p
  | .cbool b p => .Constant (.bool b) 0 p
  | .cstr x p => .Constant (.str x) 0 p
  | .bin op l r p => .BinOp (emb N l) op (emb N r) p
  | .not e p => .UnaryOp .Not (emb N e) p
  | .bop op es p => .BoolOp op (embL N es) p
  | .cmp op l r p => .Compare (emb N l) [op] [emb N r] p
  | .cmp2 o₁ o₂ a b c p => .Compare (emb N a) [o₁, o₂] [emb N b, emb N c] p
  | .call g gp args p => .Call (.Name (N.gn g) gp) (embL N args) [] p
  | .bi _ _ g gp args p => .Call (.Name (N.gn g) gp) (embL N args) [] p
  | .isi e _ g gp gt tp p => .Call (.Name (N.gn g) gp) [emb N e, .Name (N.gn gt) tp] [] p
  | .isi2 e g gp g₁ p₁ g₂ p₂ k tp p => .Call (.Name (N.gn g) gp) [emb N e, .Tuple [.Name (N.gn g₁) p₁, .Name (N.gn g₂) p₂] k tp] [] p
  | .isx i ip _ _ g gp gt tp p => .Call (.Name (N.gn g) gp) [.Name (N.nm i) ip, .Name (N.gn gt) tp] [] p
  | .sub o i p => .Subscript (emb N o) (emb N i) p
  | .slc _ o lo hi sp p => .Subscript (emb N o) (.Slice (embO N lo) (embO N hi) Option.none sp) p
  | .list _ es p => .List (embL N es) p
  | .tup es k p => .Tuple (embL N es) k p
  | .app o ap e p => .Call (.Attribute (emb N o) (Str.ofString "append") ap) [emb N e] [] p
  | .gint g _ gp => .Name (N.gn g) gp
  | .attr _ o name p => .Attribute (emb N o) name p
  | .meth _ _ o name ap args p => .Call (.Attribute (emb N o) name ap) (embL N args) [] p
  | .new _ _ g gp args p => .Call (.Name (N.gn g) gp) (embL N args) [] p
  | .lm k o ap args p => .Call (.Attribute (emb N o) (Str.ofString k.name) ap) (embL N args) [] p
  | .dct p => .Dict [] [] p
  | .subd o i p => .Subscript (emb N o) (emb N i) p
  | .skeys _ g gp o ap p' p => .Call (.Name (N.gn g) gp) [.Call (.Attribute (emb N o) (Str.ofString "keys") ap) [] [] p'] [] p
  | .comp _ elt x xp it ifs sc _ p => .ListComp (emb N elt) [⟨.Name (N.nm x) xp, embI N it, embL N ifs, 0⟩] sc p
noncomputable def embL (N : Nms) : List PE → List Expr
  | [] => []
  | e :: r => emb N e :: embL N r
noncomputable def embO (N : Nms) : Option PE → Option Expr
  | Option.none => Option.none
  | some e => some (emb N e)
noncomputable def embI (N : Nms) : IT → Expr
  | .of e => emb N e
  | .range g gp e p => .Call (.Name (N.gn g) gp) [emb N e] [] p
end
mutual
noncomputable def embS (N : Nms) : PS → Stmt
  | .assign x xp e p => .Assign [.Name (N.nm x) xp] (emb N e) p
  | .expr e p => .Expr (emb N e) p
  | .ite t b o p => .If (emb N t) (embSs N b) (embSs N o) p
  | .loop x xp it b p => .For (.Name (N.nm x) xp) (embI N it) (embSs N b) [] p
  | .ret e p => .Return (some (emb N e)) p
  | .sattr _ o name ap e p => .Assign [.Attribute (emb N o) name ap] (emb N e) p
  | .ssub o i sp e p => .Assign [.Subscript (emb N o) (emb N i) sp] (emb N e) p
  | .raise _ g gp x mp cp p => .Raise (some (.Call (.Name (N.gn g) gp) [.Constant (.str x) 0 mp] [] cp)) Option.none p
  | .try b hs p => .Try (embSs N b) (embHs N hs) [] [] p
noncomputable def embHs (N : Nms) : List HD → List ExceptHandler
  | [] => []
  | .mk _ _ g gp b p :: r => .ExceptHandler (some (.Name (N.gn g) gp)) Option.none (embSs N b) p :: embHs N r
  | .as _ _ g gp x e rp p :: r => .ExceptHandler (some (.Name (N.gn g) gp)) (some (N.nm x)) [.Return (some (emb N e)) rp] p :: embHs N r
noncomputable def embSs (N : Nms) : List PS → List Stmt
  | [] => []
  | s :: r => embS N s :: embSs N r
end

/-! ### what the constructs do to plain data -/

noncomputable def asL (σ : Store) : D → Option (List D)
  | .list xs => some xs
  | .tuple xs => some xs
  | .obj a => match σ a with
    | some (.mlist xs) => some xs
    | _ => Option.none
  | _ => Option.none

noncomputable def truthS (d : D) (σ : Store) (Φ : Bool → Store → Prop) : Prop := match d with
  | .bool b => Φ b σ
  | _ => False

noncomputable def freshIn (σ : Store) (a : Addr) : Prop := σ a = Option.none ∧ ∀ x C fs, σ x ≠ some (.inst C a fs)
noncomputable def Store.set (σ : Store) (a : Addr) (m : MObj) : Store := fun x => if x = a then some m else σ x

/-- a new list: plain, or a mutable one of the store -/
noncomputable def mkS (m : Bool) (ds : List D) (σ : Store) (Φ : D → Store → Prop) : Prop :=
  if m then ∀ a, freshIn σ a → Φ (.obj a) (σ.set a (.mlist ds)) else Φ (.list ds) σ

noncomputable def small : Nat := 1000000

/-! fields of instances, items of dicts -/
noncomputable def getF (name : Str) : List (Str × D) → Option D
  | [] => Option.none
  | (k, x) :: r => if k = name then some x else getF name r
noncomputable def putF (name : Str) (d : D) : List (Str × D) → List (Str × D)
  | [] => [(name, d)]
  | (k, x) :: r => if k = name then (k, d) :: r else (k, x) :: putF name d r
noncomputable def getK (k : Int) : List (Int × D) → Option D
  | [] => Option.none
  | (j, x) :: r => if j = k then some x else getK k r
noncomputable def putK (k : Int) (d : D) : List (Int × D) → List (Int × D)
  | [] => [(k, d)]
  | (j, x) :: r => if j = k then (j, d) :: r else (j, x) :: putK k d r
noncomputable def delK (k : Int) (kvs : List (Int × D)) : List (Int × D) := kvs.filter fun x => decide (x.1 ≠ k)

noncomputable def isTuple : D → Bool
  | .tuple _ => true
  | _ => false

/-- sums of sequences -/
noncomputable def binX (op : Operator) (a b : D) (σ : Store) (Φ : D → Store → Prop) : Prop := match op with
  | .Add => ∃ xs ys, asL σ a = some xs ∧ asL σ b = some ys ∧ xs.length + ys.length ≤ small ∧ ((isTuple a = false ∧ isTuple b = false ∧ Φ (.list (xs ++ ys)) σ) ∨ (isTuple a = true ∧ isTuple b = true ∧ Φ (.tuple (xs ++ ys)) σ))
  | _ => False

noncomputable def intS (a b : D) (K : Int → Int → Prop) : Prop := match a with
  | .int x => match b with
    | .int y => K x y
    | _ => False
  | _ => False
noncomputable def addS (a b : D) (σ : Store) (Φ : D → Store → Prop) : Prop := match a with
  | .int x => intS (.int x) b fun x y => Φ (.int (x + y)) σ
  | .list xs => match b with
    | .list ys => xs.length + ys.length ≤ small ∧ Φ (.list (xs ++ ys)) σ
    | b => binX .Add (.list xs) b σ Φ
  | a => binX .Add a b σ Φ
noncomputable def binS (op : Operator) (a b : D) (σ : Store) (Φ : D → Store → Prop) : Prop := match op with
  | .Add => addS a b σ Φ
  | .Sub => intS a b fun x y => Φ (.int (x - y)) σ
  | .Mult => intS a b fun x y => (x.natAbs < 2 ^ 64 ∨ y.natAbs < 2 ^ 64) ∧ Φ (.int (x * y)) σ
  | .Mod => intS a b fun x y => 0 < y ∧ Φ (.int (x % y)) σ
  | .FloorDiv => intS a b fun x y => (0 < y ∧ y < 10 ^ 50) ∧ Φ (.int (x / y)) σ
  | .Pow => intS a b fun x y => (0 ≤ y ∧ (Builtin.Int.intBits x : Int) * y ≤ 2 ^ 27) ∧ Φ (.int (x ^ y.toNat)) σ
  | _ => False

mutual
/-- equality of plain data as Python sees it, for data without store objects -/
noncomputable def D.py : D → Option PyData
  | .none => some .none
  | .bool b => some (.bool b)
  | .int i => some (.int i)
  | .str x => some (.str x)
  | .tuple xs => (D.pys xs).map .tuple
  | .list xs => (D.pys xs).map .list
  | .obj _ => Option.none
noncomputable def D.pys : List D → Option (List PyData)
  | [] => some []
  | d :: ds => (D.py d).bind fun x => (D.pys ds).map (x :: ·)
end

noncomputable def isNone : D → Option Bool
  | .none => some true
  | .obj _ => some false
  | _ => some false

/-- what equality sees: a mutable list as its items -/
noncomputable def eqP (σ : Store) : D → Option PyData
  | .obj a => match σ a with
    | some (.mlist xs) => (D.pys xs).map .list
    | _ => Option.none
  | d => D.py d

/-- membership of a whole number -/
noncomputable def inS (a b : D) (σ : Store) (K : Bool → Prop) : Prop := match a with
  | .int k => (∃ ns : List Int, asL σ b = some (ns.map D.int) ∧ K (ns.contains k)) ∨ (∃ p kvs, b = .obj p ∧ σ p = some (.mdict kvs) ∧ K (getK k kvs).isSome)
  | _ => False
noncomputable def eqG (a b : D) (σ : Store) (K : Bool → Prop) : Prop := ∃ x y, eqP σ a = some x ∧ eqP σ b = some y ∧ SeqAt.shaped x = true ∧ SeqAt.shaped y = true ∧ K (PyData.eqv x y)
noncomputable def eqS' (a b : D) (σ : Store) (K : Bool → Prop) : Prop := match a with
  | .int x => match b with
    | .int y => K (decide (x = y))
    | b => eqG (.int x) b σ K
  | .bool x => match b with
    | .bool y => K (x == y)
    | b => eqG (.bool x) b σ K
  | a => eqG a b σ K
noncomputable def isS (a b : D) (K : Bool → Prop) : Prop := match b with
  | .none => ∃ t, isNone a = some t ∧ K t
  | _ => False
noncomputable def cmpS (op : CmpOp) (a b : D) (σ : Store) (Φ : D → Store → Prop) : Prop := match op with
  | .Lt => intS a b fun x y => Φ (.bool (decide (x < y))) σ
  | .LtE => intS a b fun x y => Φ (.bool (decide (x ≤ y))) σ
  | .Gt => intS a b fun x y => Φ (.bool (decide (x > y))) σ
  | .GtE => intS a b fun x y => Φ (.bool (decide (x ≥ y))) σ
  | .Eq => eqS' a b σ fun t => Φ (.bool t) σ
  | .NotEq => eqS' a b σ fun t => Φ (.bool (!t)) σ
  | .Is => isS a b fun t => Φ (.bool t) σ
  | .IsNot => isS a b fun t => Φ (.bool (!t)) σ
  | .In => inS a b σ fun t => Φ (.bool t) σ
  | .NotIn => inS a b σ fun t => Φ (.bool (!t)) σ

noncomputable def subS (o i : D) (σ : Store) (Φ : D → Store → Prop) : Prop := match i with
  | .int k => ∃ xs, asL σ o = some xs ∧ xs.length ≤ small ∧ ((0 ≤ k ∧ ∃ d, xs[k.toNat]? = some d ∧ Φ d σ) ∨ (k = -1 ∧ ∃ d, xs.getLast? = some d ∧ Φ d σ))
  | _ => False

noncomputable def TY.isL : TY → Bool
  | .list => true
  | _ => false
noncomputable def TY.isT : TY → Bool
  | .tuple => true
  | _ => false
noncomputable def TY.isI : TY → Bool
  | .int => true
  | _ => false
noncomputable def TY.isB : TY → Bool
  | .int => true
  | .bool => true
  | _ => false
noncomputable def tyS (ty : TY) (d : D) (σ : Store) : Option Bool := match d with
  | .none => some false
  | .str _ => some false
  | .int _ => some ty.isI
  | .bool _ => some ty.isB
  | .list _ => some ty.isL
  | .tuple _ => some ty.isT
  | .obj a => match σ a with
    | some (.mlist _) => some ty.isL
    | _ => Option.none
/-- is it a list or a tuple -/
noncomputable def ltS (d : D) (σ : Store) : Option Bool := match d with
  | .none => some false
  | .str _ => some false
  | .int _ => some false
  | .bool _ => some false
  | .list _ => some true
  | .tuple _ => some true
  | .obj a => match σ a with
    | some (.mlist _) => some true
    | _ => Option.none
/-- is the exception at hand of one of these classes -/
noncomputable def exS (cs os : List Nat) (C : Option Addr) (K : Bool → Prop) : Prop := match C with
  | some C => if cs.contains C then K true else os.contains C = true ∧ K false
  | Option.none => False

noncomputable def isML (d : D) (σ : Store) : Prop := match d with
  | .obj a => ∃ xs, σ a = some (.mlist xs)
  | _ => False
noncomputable def appS (d e : D) (σ : Store) (Φ : D → Store → Prop) : Prop := match d with
  | .obj a => ∃ xs, σ a = some (.mlist xs) ∧ xs.length ≤ small ∧ Φ .none (σ.set a (.mlist (xs ++ [e])))
  | _ => False
noncomputable def oneS (ds : List D) (K : D → Prop) : Prop := match ds with
  | [d] => K d
  | _ => False
noncomputable def intK (d : D) (K : Int → Prop) : Prop := match d with
  | .int i => K i
  | _ => False
/-- methods of lists and dicts -/
noncomputable def lmOk (k : LM) (d : D) (σ : Store) : Prop := match k with
  | .dpop => ∃ a kvs, d = .obj a ∧ σ a = some (.mdict kvs)
noncomputable def lmS (k : LM) (d : D) (ds : List D) (σ : Store) (Φ : D → Store → Prop) : Prop := match k with
  | .dpop => oneS ds fun i => intK i fun i => ∃ a kvs e, d = .obj a ∧ σ a = some (.mdict kvs) ∧ getK i kvs = some e ∧ kvs.length ≤ small ∧ Φ e (σ.set a (.mdict (delK i kvs)))
noncomputable def instS (C : Nat) (name : Str) (d : D) (σ : Store) : Prop := ∃ a dx fs, d = .obj a ∧ σ a = some (.inst C dx fs) ∧ getF name fs = Option.none
noncomputable def attrS (C : Nat) (name : Str) (d : D) (σ : Store) (Φ : D → Store → Prop) : Prop := ∃ a dx fs x, d = .obj a ∧ σ a = some (.inst C dx fs) ∧ getF name fs = some x ∧ Φ x σ
noncomputable def subdS (o i : D) (σ : Store) (Φ : D → Store → Prop) : Prop := ∃ a kvs k x, o = .obj a ∧ σ a = some (.mdict kvs) ∧ i = .int k ∧ getK k kvs = some x ∧ Φ x σ
noncomputable def skeysS (m : Bool) (d : D) (σ : Store) (Φ : D → Store → Prop) : Prop := ∃ a kvs ms, d = .obj a ∧ σ a = some (.mdict kvs) ∧ kvs.length ≤ small ∧ List.Perm ms (kvs.map (·.1)) ∧ ms.Pairwise (· ≤ ·) ∧ mkS m (ms.map D.int) σ Φ
noncomputable def setS (C : Nat) (name : Str) (o d : D) (σ : Store) (K : Store → Prop) : Prop := ∃ a dx fs, o = .obj a ∧ σ a = some (.inst C dx fs) ∧ fs.length ≤ 900 ∧ K (σ.set a (.inst C dx (putF name d fs)))
noncomputable def stoS (o i d : D) (σ : Store) (K : Store → Prop) : Prop := match i with
  | .int j => (∃ a xs, o = .obj a ∧ σ a = some (.mlist xs) ∧ 0 ≤ j ∧ j < xs.length ∧ xs.length ≤ small ∧ K (σ.set a (.mlist (xs.set j.toNat d)))) ∨
      (∃ a kvs, o = .obj a ∧ σ a = some (.mdict kvs) ∧ kvs.length ≤ small ∧ K (σ.set a (.mdict (putK j d kvs))))
  | _ => False

noncomputable def biS (b : BI) (m : Bool) (ds : List D) (σ : Store) (Φ : D → Store → Prop) : Prop := match b with
  | .len => oneS ds fun d => ∃ xs, asL σ d = some xs ∧ xs.length ≤ small ∧ Φ (.int xs.length) σ
  | .list => oneS ds fun d => ∃ xs, asL σ d = some xs ∧ xs.length ≤ small ∧ mkS m xs σ Φ
  | .sorted => oneS ds fun d => ∃ ns ms : List Int, asL σ d = some (ns.map D.int) ∧ isTuple d = false ∧ ns.length ≤ small ∧ ms.Perm ns ∧ ms.Pairwise (· ≤ ·) ∧ mkS m (ms.map D.int) σ Φ
  | .lenD => oneS ds fun d => ∃ a kvs, d = .obj a ∧ σ a = some (.mdict kvs) ∧ kvs.length ≤ small ∧ Φ (.int kvs.length) σ
  | .listD => oneS ds fun d => ∃ a kvs, d = .obj a ∧ σ a = some (.mdict kvs) ∧ kvs.length ≤ small ∧ mkS m (kvs.map fun x => D.int x.1) σ Φ
  | .tupleA => oneS ds fun d => ∃ xs, asL σ d = some xs ∧ xs.length ≤ small ∧ Φ (.tuple xs) σ

noncomputable def partI : Option D → Option (Option Int)
  | Option.none => some Option.none
  | some (.int k) => some (some k)
  | _ => Option.none
noncomputable def sliceD (xs : List D) (lo hi : Option Int) : List D :=
  (xs.drop (lo.elim 0 (clipAt xs.length))).take (hi.elim xs.length (clipAt xs.length) - lo.elim 0 (clipAt xs.length))
noncomputable def slcS (m : Bool) (o : D) (lo hi : Option D) (σ : Store) (Φ : D → Store → Prop) : Prop :=
  ∃ xs l h, asL σ o = some xs ∧ partI lo = some l ∧ partI hi = some h ∧ xs.length ≤ small ∧ (match isTuple o with | true => Φ (.tuple (sliceD xs l h)) σ | false => mkS m (sliceD xs l h) σ Φ)

/-- results of statements -/
inductive Res where
  | next (ρ : PEnv) (σ : Store)
  | ret (d : D) (σ : Store)
  | brk (ρ : PEnv) (σ : Store)
  | cont (ρ : PEnv) (σ : Store)

/-- the iterable's list is not changed within the loop -/
noncomputable def keepS (d : D) (ds : List D) (σ : Store) : Prop := match d with
  | .obj a => σ a = some (.mlist ds)
  | _ => True

noncomputable def forS (step : D → PEnv → Store → (Res → Prop) → Prop) (keep : Store → Prop) : List D → PEnv → Store → (Res → Prop) → Prop
  | [], ρ, σ, Φ => Φ (.next ρ σ)
  | d :: ds, ρ, σ, Φ => step d ρ σ fun r => match r with
    | .next ρ' σ' => keep σ' ∧ forS step keep ds ρ' σ' Φ
    | .cont ρ' σ' => keep σ' ∧ forS step keep ds ρ' σ' Φ
    | .brk ρ' σ' => Φ (.next ρ' σ')
    | .ret d' σ' => Φ (.ret d' σ')

noncomputable def compS (step : D → Store → (Option D → Store → Prop) → Prop) (keep : Store → Prop) : List D → Store → List D → (List D → Store → Prop) → Prop
  | [], σ, acc, Ψ => Ψ acc σ
  | d :: ds, σ, acc, Ψ => step d σ fun o σ' => keep σ' ∧ compS step keep ds σ' (acc ++ o.toList) Ψ

noncomputable def onlyGo (l : List Nat) : Nat → PEnv → PEnv
  | _, [] => []
  | i, d :: r => (if l.contains i then d else Option.none) :: onlyGo l (i + 1) r
noncomputable def PEnv.only (ρ : PEnv) (l : List Nat) : PEnv := onlyGo l 0 ρ

/-- which exceptions may come; which one is at hand -/
structure Exs where
  x : Addr → Store → Prop
  cur : Option Addr
noncomputable def noX : Exs := ⟨fun _ _ => False, Option.none⟩
noncomputable abbrev Spec := List D → Store → (D → Store → Prop) → (Addr → Store → Prop) → Prop
noncomputable abbrev ETr := PEnv → Store → (D → Store → Prop) → Prop
noncomputable abbrev TTr := PEnv → Store → (Bool → Store → Prop) → Prop
/-- value and test of an expression -/
structure VT where
  v : ETr
  t : TTr
noncomputable def VT.of (v : ETr) : VT := ⟨v, fun ρ σ Φ => v ρ σ fun d σ' => truthS d σ' Φ⟩

noncomputable def bopV (op : BoolOp) : List VT → ETr
  | [], _, _, _ => False
  | [x], ρ, σ, Φ => x.v ρ σ Φ
  | x :: y :: r, ρ, σ, Φ => x.v ρ σ fun d σ' => truthS d σ' fun b σ'' => match op with
    | .And => (b = false → Φ d σ'') ∧ (b = true → bopV op (y :: r) ρ σ'' Φ)
    | .Or => (b = true → Φ d σ'') ∧ (b = false → bopV op (y :: r) ρ σ'' Φ)
noncomputable def bopT (op : BoolOp) : List VT → TTr
  | [], _, σ, Φ => Φ (op == .And) σ
  | x :: r, ρ, σ, Φ => x.t ρ σ fun b σ' => match op with
    | .And => (b = false → Φ false σ') ∧ (b = true → bopT op r ρ σ' Φ)
    | .Or => (b = true → Φ true σ') ∧ (b = false → bopT op r ρ σ' Φ)
noncomputable def argsV : List VT → PEnv → Store → (List D → Store → Prop) → Prop
  | [], _, σ, Φ => Φ [] σ
  | x :: r, ρ, σ, Φ => x.v ρ σ fun d σ' => argsV r ρ σ' fun ds σ'' => Φ (d :: ds) σ''
/-- tests of a comprehension -/
noncomputable def ifsT : List VT → TTr
  | [], _, σ, Φ => Φ true σ
  | x :: r, ρ, σ, Φ => x.t ρ σ fun b σ' => (b = true → ifsT r ρ σ' Φ) ∧ (b = false → Φ false σ')

noncomputable def newS (C : Nat) (Sp : Spec) (ds : List D) (σ : Store) (Φ : D → Store → Prop) (X : Addr → Store → Prop) : Prop :=
  ∀ a dx, freshIn σ a → freshIn σ dx → a ≠ dx → Sp (.obj a :: ds) (σ.set a (.inst C dx [])) (fun d σ' => d = .none ∧ Φ (.obj a) σ') X
noncomputable def rangeD (n : Int) : List D := (List.range n.toNat).map fun (i : Nat) => D.int i

mutual
noncomputable def vc (S : Nat → Spec) (X : Exs) : PE → VT
  | .var i _ => .of fun ρ σ Φ => match ρ.at i with
    | some d => Φ d σ
    | Option.none => False
  | .cint i _ => .of fun _ σ Φ => Φ (.int i) σ
  | .cnone _ => .of fun _ σ Φ => Φ .none σ
  | .cbool b _ => .of fun _ σ Φ => Φ (.bool b) σ
  | .cstr x _ => .of fun _ σ Φ => Φ (.str x) σ
  | .bin op l r _ => .of fun ρ σ Φ => (vc S X l).v ρ σ fun a σ₁ => (vc S X r).v ρ σ₁ fun b σ₂ => binS op a b σ₂ Φ
  | .not e _ => ⟨fun ρ σ Φ => (vc S X e).v ρ σ fun d σ' => truthS d σ' fun b σ'' => Φ (.bool (!b)) σ'', fun ρ σ Φ => (vc S X e).t ρ σ fun b σ' => Φ (!b) σ'⟩
  | .bop op es _ => ⟨bopV op (vcL S X es), bopT op (vcL S X es)⟩
  | .cmp op l r _ => .of fun ρ σ Φ => (vc S X l).v ρ σ fun a σ₁ => (vc S X r).v ρ σ₁ fun b σ₂ => cmpS op a b σ₂ Φ
  | .cmp2 o₁ o₂ a b c _ => .of fun ρ σ Φ => (vc S X a).v ρ σ fun x σ₁ => (vc S X b).v ρ σ₁ fun y σ₂ => cmpS o₁ x y σ₂ fun d σ₃ =>
      truthS d σ₃ fun t σ₄ => (t = false → Φ (.bool false) σ₄) ∧ (t = true → (vc S X c).v ρ σ₄ fun z σ₅ => cmpS o₂ y z σ₅ Φ)
  | .call g _ args _ => .of fun ρ σ Φ => argsV (vcL S X args) ρ σ fun ds σ' => S g ds σ' Φ X.x
  | .bi b m _ _ args _ => .of fun ρ σ Φ => argsV (vcL S X args) ρ σ fun ds σ' => biS b m ds σ' Φ
  | .isi2 e _ _ _ _ _ _ _ _ _ => .of fun ρ σ Φ => (vc S X e).v ρ σ fun d σ' => ∃ t, ltS d σ' = some t ∧ Φ (.bool t) σ'
  | .isx _ _ cs os _ _ _ _ _ => .of fun _ σ Φ => exS cs os X.cur fun t => Φ (.bool t) σ
  | .isi e ty _ _ _ _ _ => .of fun ρ σ Φ => (vc S X e).v ρ σ fun d σ' => ∃ t, tyS ty d σ' = some t ∧ Φ (.bool t) σ'
  | .sub o i _ => .of fun ρ σ Φ => (vc S X o).v ρ σ fun a σ₁ => (vc S X i).v ρ σ₁ fun b σ₂ => subS a b σ₂ Φ
  | .slc m o lo hi _ _ => .of fun ρ σ Φ => (vc S X o).v ρ σ fun a σ₁ => vcO S X lo ρ σ₁ fun l σ₂ => vcO S X hi ρ σ₂ fun h σ₃ => slcS m a l h σ₃ Φ
  | .list m es _ => .of fun ρ σ Φ => argsV (vcL S X es) ρ σ fun ds σ' => Nat.ble ds.length small = true ∧ mkS m ds σ' Φ
  | .tup es _ _ => .of fun ρ σ Φ => argsV (vcL S X es) ρ σ fun ds σ' => Nat.ble ds.length small = true ∧ Φ (.tuple ds) σ'
  | .app o _ e _ => .of fun ρ σ Φ => (vc S X o).v ρ σ fun a σ₁ => isML a σ₁ ∧ (vc S X e).v ρ σ₁ fun b σ₂ => appS a b σ₂ Φ
  | .gint _ i _ => .of fun _ σ Φ => Φ (.int i) σ
  | .attr C o name _ => .of fun ρ σ Φ => (vc S X o).v ρ σ fun d σ' => attrS C name d σ' Φ
  | .meth C g o name _ args _ => .of fun ρ σ Φ => (vc S X o).v ρ σ fun d σ₁ => instS C name d σ₁ ∧ argsV (vcL S X args) ρ σ₁ fun ds σ₂ => S g (d :: ds) σ₂ Φ X.x
  | .new C gi _ _ args _ => .of fun ρ σ Φ => argsV (vcL S X args) ρ σ fun ds σ₁ => newS C (S gi) ds σ₁ Φ X.x
  | .lm k o _ args _ => .of fun ρ σ Φ => (vc S X o).v ρ σ fun d σ₁ => lmOk k d σ₁ ∧ argsV (vcL S X args) ρ σ₁ fun ds σ₂ => lmS k d ds σ₂ Φ
  | .dct _ => .of fun _ σ Φ => ∀ a, freshIn σ a → Φ (.obj a) (σ.set a (.mdict []))
  | .subd o i _ => .of fun ρ σ Φ => (vc S X o).v ρ σ fun a σ₁ => (vc S X i).v ρ σ₁ fun b σ₂ => subdS a b σ₂ Φ
  | .skeys m _ _ o _ _ _ => .of fun ρ σ Φ => (vc S X o).v ρ σ fun d σ' => skeysS m d σ' Φ
  | .comp m elt x _ it ifs _ fr _ => .of fun ρ σ Φ => vcI S X it ρ σ fun d ds σ₁ => ds.length ≤ small ∧
      compS (fun e σ' K => ifsT (vcL S noX ifs) ((ρ.only fr).put x e) σ' fun b σ'' => (b = true → (vc S noX elt).v ((ρ.only fr).put x e) σ'' fun r σ₃ => K (some r) σ₃) ∧ (b = false → K Option.none σ'')) (keepS d ds) ds σ₁ []
        fun out σ₂ => mkS m out σ₂ Φ
noncomputable def vcL (S : Nat → Spec) (X : Exs) : List PE → List VT
  | [] => []
  | e :: r => vc S X e :: vcL S X r
noncomputable def vcO (S : Nat → Spec) (X : Exs) : Option PE → PEnv → Store → (Option D → Store → Prop) → Prop
  | Option.none, _, σ, Φ => Φ Option.none σ
  | some e, ρ, σ, Φ => (vc S X e).v ρ σ fun d σ' => Φ (some d) σ'
noncomputable def vcI (S : Nat → Spec) (X : Exs) : IT → PEnv → Store → (D → List D → Store → Prop) → Prop
  | .of e, ρ, σ, Φ => (vc S X e).v ρ σ fun d σ' => ∃ ds, asL σ' d = some ds ∧ Φ d ds σ'
  | .range _ _ e _, ρ, σ, Φ => (vc S X e).v ρ σ fun d σ' => match d with
    | .int n => n ≤ small ∧ -small ≤ n ∧ Φ .none (rangeD n) σ'
    | _ => False
end

mutual
noncomputable def vcS (S : Nat → Spec) (X : Exs) : PS → PEnv → Store → (Res → Prop) → Prop
  | .assign x _ e _, ρ, σ, Φ => (vc S X e).v ρ σ fun d σ' => Φ (.next (ρ.put x d) σ')
  | .expr e _, ρ, σ, Φ => (vc S X e).v ρ σ fun _ σ' => Φ (.next ρ σ')
  | .ite t b o _, ρ, σ, Φ => (vc S X t).t ρ σ fun c σ' => (c = true → vcSs S X b ρ σ' Φ) ∧ (c = false → vcSs S X o ρ σ' Φ)
  | .loop x _ it b _, ρ, σ, Φ => vcI S X it ρ σ fun d ds σ₁ => forS (fun e ρ' σ' Ψ => vcSs S X b (ρ'.put x e) σ' Ψ) (keepS d ds) ds ρ σ₁ Φ
  | .ret e _, ρ, σ, Φ => (vc S X e).v ρ σ fun d σ' => Φ (.ret d σ')
  | .sattr C o name _ e _, ρ, σ, Φ => (vc S X e).v ρ σ fun d σ₁ => (vc S X o).v ρ σ₁ fun x σ₂ => setS C name x d σ₂ fun σ₃ => Φ (.next ρ σ₃)
  | .ssub o i _ e _, ρ, σ, Φ => (vc S X e).v ρ σ fun d σ₁ => (vc S X o).v ρ σ₁ fun x σ₂ => (vc S X i).v ρ σ₂ fun k σ₃ => stoS x k d σ₃ fun σ₄ => Φ (.next ρ σ₄)
  | .raise C _ _ _ _ _ _, _, σ, _ => X.x C σ
  | .try b hs _, ρ, σ, Φ => vcSs S ⟨fun C σ' => vcHs S X hs ρ Φ C σ', Option.none⟩ b ρ σ Φ
noncomputable def vcHs (S : Nat → Spec) (X : Exs) : List HD → PEnv → (Res → Prop) → Addr → Store → Prop
  | [], _, _, _, _ => False
  | .mk cs os _ _ b _ :: r, ρ, Φ, C, σ => if cs.contains C then vcSs S noX b ρ σ Φ else os.contains C = true ∧ vcHs S X r ρ Φ C σ
  | .as cs os _ _ x e _ _ :: r, ρ, Φ, C, σ => if cs.contains C then Nat.blt x ρ.length = true ∧ ρ.at x = Option.none ∧ (vc S ⟨fun _ _ => False, some C⟩ e).v ρ σ (fun d σ' => Φ (.ret d σ')) else os.contains C = true ∧ vcHs S X r ρ Φ C σ
noncomputable def vcSs (S : Nat → Spec) (X : Exs) : List PS → PEnv → Store → (Res → Prop) → Prop
  | [], ρ, σ, Φ => Φ (.next ρ σ)
  | s :: r, ρ, σ, Φ => vcS S X s ρ σ fun res => match res with
    | .next ρ' σ' => vcSs S X r ρ' σ' Φ
    | .ret d σ' => Φ (.ret d σ')
    | .brk ρ' σ' => Φ (.brk ρ' σ')
    | .cont ρ' σ' => Φ (.cont ρ' σ')
end
end Mine
end
section
open PySem PyProof.Rows
set_option Elab.async false
namespace Mine

noncomputable def WPv (c : Cx) (A : Around) (nm : Nat → Str) (vs : List Nat) (env : Env) (ρ : PEnv) (σ : Store) (t : Sem Value) (Φ : D → Store → Prop) : Prop :=
  ∀ P s, Good c nm vs env ρ σ P s → ∀ (Q : Value → Shared → Prop),
    (∀ v d σ' s', Φ d σ' → Step c.W noF σ σ' s s' → StoreOk σ' P s'.heap → Rep (nd σ' P) s'.heap d v → Q v s') → wpAny c.M A t Q c.E s
noncomputable def WPb (c : Cx) (A : Around) (nm : Nat → Str) (vs : List Nat) (env : Env) (ρ : PEnv) (σ : Store) (t : Sem Bool) (Φ : Bool → Store → Prop) : Prop :=
  ∀ P s, Good c nm vs env ρ σ P s → ∀ (Q : Bool → Shared → Prop),
    (∀ b σ' s', Φ b σ' → Step c.W noF σ σ' s s' → StoreOk σ' P s'.heap → Q b s') → wpAny c.M A t Q c.E s
noncomputable def WPl (c : Cx) (A : Around) (nm : Nat → Str) (vs : List Nat) (env : Env) (ρ : PEnv) (σ : Store) (t : Sem (List Value)) (Φ : List D → Store → Prop) : Prop :=
  ∀ P s, Good c nm vs env ρ σ P s → ∀ (Q : List Value → Shared → Prop),
    (∀ v d σ' s', Φ d σ' → Step c.W noF σ σ' s s' → StoreOk σ' P s'.heap → RepL (nd σ' P) s'.heap d v → Q v s') → wpAny c.M A t Q c.E s

theorem Stay.of_keep {N : Addr → Prop} {h h' : Heap} (k : ∀ a o, h.get? a = some o → h'.get? a = some o) : Stay N N h h' := fun a o hN ho _ => ⟨k a o ho, hN⟩

theorem MRep.stay {σ σ' : Store} {P P' : Addr → Prop} {h h' : Heap} (k : Stay (nd σ P) (nd σ' P') h h') {a : Addr} {mo : MObj} (kd : ∀ b o, (b = a ∨ ∃ C fs, mo = .inst C b fs) → h.get? b = some o → h'.get? b = some o)
    (x : MRep σ P h a mo) : MRep σ' P' h' a mo := by
  cases mo with
  | mlist ds =>
    obtain ⟨vs, ⟨n, ho⟩, hl⟩ := x
    exact ⟨vs, ⟨n, kd a _ (.inl rfl) ho⟩, RepL.stay k ds _ hl⟩
  | inst C dx fs =>
    obtain ⟨n, es, vs, h1, h2, h3, h4, h5, h6⟩ := x
    exact ⟨n, es, vs, kd a _ (.inl rfl) h1, kd dx _ (.inr ⟨C, fs, rfl⟩) h2, h3, h4, RepL.stay k _ _ h5, h6⟩
  | mdict kvs =>
    obtain ⟨n, es, vs, h1, h2, h3, h4⟩ := x
    exact ⟨n, es, vs, kd a _ (.inl rfl) h1, h2, RepL.stay k _ _ h3, h4⟩

theorem StoreOk.keeps {σ P h h'} (x : StoreOk σ P h) (k : ∀ a o, h.get? a = some o → h'.get? a = some o) : StoreOk σ P h' :=
  ⟨fun a mo e => (x.rep a mo e).stay (Stay.of_keep k) (fun b o _ ho => k b o ho), x.apart, x.free⟩

theorem StoreOk.alive {σ P h} (x : StoreOk σ P h) {a : Addr} (hd : dom σ a) : ∃ o, h.get? a = some o := by
  rcases hd with h1 | ⟨y, C, fs, h1⟩
  · cases e : σ a with
    | none => exact absurd e h1
    | some mo =>
      have := x.rep a mo e
      cases mo with
      | mlist ds => obtain ⟨vs, ⟨n, ho⟩, _⟩ := this; exact ⟨_, ho⟩
      | inst C dx fs => obtain ⟨n, es, vs, h1, _⟩ := this; exact ⟨_, h1⟩
      | mdict kvs => obtain ⟨n, es, vs, h1, _⟩ := this; exact ⟨_, h1⟩
  · obtain ⟨n, es, vs, _, h2, _⟩ := x.rep y _ h1
    exact ⟨_, h2⟩

theorem keeps_toks (s : Shared) (t : Nat) : Keeps s { s with toks := t } := ⟨s.heap, t, rfl, fun _ _ e => e⟩
theorem keeps_push (s : Shared) (o : Obj) (t : Nat) : Keeps s { s with heap := s.heap.push o, toks := t } := ⟨_, t, rfl, fun _ _ e => Heap.get?_push_of_some _ e⟩
theorem keeps_push' (s : Shared) (o : Obj) : Keeps s { s with heap := s.heap.push o } := ⟨_, s.toks, rfl, fun _ _ e => Heap.get?_push_of_some _ e⟩
theorem keeps_refl (s : Shared) : Keeps s s := ⟨s.heap, s.toks, rfl, fun _ _ e => e⟩
theorem keeps_heap {s s' : Shared} (k : Keeps s s') : ∀ a o, s.heap.get? a = some o → s'.heap.get? a = some o := by obtain ⟨h', tk, rfl, h⟩ := k; exact h

theorem get?_size_none (h : Heap) : h.get? h.objs.size = none := by
  cases e : h.get? h.objs.size with
  | none => rfl
  | some o => exact absurd (Heap.lt_size e) (Nat.lt_irrefl _)

theorem Good.nd_of_none {c nm vs env ρ σ P s} (g : Good c nm vs env ρ σ P s) {a : Addr} (ha : s.heap.get? a = none) : nd σ P a := by
  refine ⟨fun hd => ?_, fun hp => ?_⟩
  · obtain ⟨o, ho⟩ := g.st.alive hd
    rw [ha] at ho; cases ho
  · obtain ⟨o, ho⟩ := g.prot _ hp
    rw [ha] at ho; cases ho
theorem Good.nd_size {c nm vs env ρ σ P s} (g : Good c nm vs env ρ σ P s) : nd σ P s.heap.objs.size := g.nd_of_none (get?_size_none _)

/-- ends with plain data where all is kept -/
theorem fin_keeps {c nm vs env ρ σ P s s'} {Q : Value → Shared → Prop} {Φ : D → Store → Prop} {d : D} {v : Value} (g : Good c nm vs env ρ σ P s)
    (hQ : ∀ v d σ' s', Φ d σ' → Step c.W noF σ σ' s s' → StoreOk σ' P s'.heap → Rep (nd σ' P) s'.heap d v → Q v s') (hΦ : Φ d σ) (k : Keeps s s') (hr : Rep (nd σ P) s'.heap d v) : Q v s' :=
  hQ v d σ s' hΦ (Step.of_keeps k) (g.st.keeps (keeps_heap k)) hr

theorem rep_int {N h i t} : Rep N h (.int i) (.int i t) := by simp [Rep]
theorem rep_bool {N h b} : Rep N h (.bool b) (.bool b) := by simp [Rep]
theorem rep_none {N h} : Rep N h .none .none := by simp [Rep]
theorem rep_str {N h x t} : Rep N h (.str x) (.str x t) := by simp [Rep]
theorem Rep.keeps {N h h' d v} (x : Rep N h d v) (k : ∀ a o, h.get? a = some o → h'.get? a = some o) : Rep N h' d v := Rep.stay (Stay.of_keep k) d v x
theorem RepL.keeps {N h h' d v} (x : RepL N h d v) (k : ∀ a o, h.get? a = some o → h'.get? a = some o) : RepL N h' d v := RepL.stay (Stay.of_keep k) d v x

section
variable {c : Cx} {A : Around} {nm : Nat → Str} {vs : List Nat} {env : Env} {ρ : PEnv} {σ : Store}

theorem R_var {i : Nat} {p : Pos} {Φ : D → Store → Prop} {d : D} (ok : EnvOk nm vs env) (hd : ρ.at i = some d) (h : Φ d σ) : WPv c A nm vs env ρ σ (eval (.Name (nm i) p) env) Φ := by
  intro P s g Q hQ
  obtain ⟨hi, v, hv, hr⟩ := g.var i d hd
  refine wpAny_Name ?_ (ok.dbg i hi)
  have fin : Q v s := fin_keeps g hQ h (keeps_refl s) hr
  rcases hv with ⟨hk, m, hn, hm⟩ | ⟨hk, ca, hc, hcell⟩
  · exact wpAny_loadName_local ok.kind hk hn hm fin
  · exact wpAny_loadName_cell ok.kind hk hc hcell fin

theorem R_int {i : Int} {k : Nat} {p : Pos} {Φ : D → Store → Prop} (h : Φ (.int i) σ) : WPv c A nm vs env ρ σ (eval (.Constant (.int i) k p) env) Φ := fun _ s g _ hQ =>
  wpAny_Constant_int (fin_keeps g hQ h (keeps_toks s _) rep_int)
theorem R_none {k : Nat} {p : Pos} {Φ : D → Store → Prop} (h : Φ .none σ) : WPv c A nm vs env ρ σ (eval (.Constant .none k p) env) Φ := fun _ s g _ hQ =>
  wpAny_Constant_none (fin_keeps g hQ h (keeps_refl s) rep_none)
theorem R_bool {b : Bool} {k : Nat} {p : Pos} {Φ : D → Store → Prop} (h : Φ (.bool b) σ) : WPv c A nm vs env ρ σ (eval (.Constant (.bool b) k p) env) Φ := fun _ s g _ hQ =>
  wpAny_Constant_bool (fin_keeps g hQ h (keeps_refl s) rep_bool)
theorem R_str {x : Str} {k : Nat} {p : Pos} {Φ : D → Store → Prop} (h : Φ (.str x) σ) : WPv c A nm vs env ρ σ (eval (.Constant (.str x) k p) env) Φ := fun _ s g _ hQ =>
  wpAny_Constant_str (fin_keeps g hQ h (keeps_toks s _) rep_str)

/-- a global name -/
theorem R_glob {x : Str} {p : Pos} {v : Value} (ok : EnvOk nm vs env) (hx : env.kindOf x = some .globalImplicit) (hd : (x == ("__debug__" : Str)) = false) (hv : c.glob x = some v)
    {P s} (g : Good c nm vs env ρ σ P s) {Q : Value → Shared → Prop} {E : Value → Shared → Prop} (hQ : Q v s) : wpAny c.M A (eval (.Name x p) env) Q E s := by
  refine Calls.Name_function_global ok.kind hx ?_ hd
  have hg : s.heap.Ns env.globals c.mg := by rw [ok.globals]; exact c.hg.keeps g.base
  have hb : s.heap.Ns env.builtins c.mb := by rw [ok.builtins]; exact c.hb.keeps g.base
  unfold Bx.glob at hv
  cases hm : c.mg x with
  | some u => rw [hm] at hv; cases hv; exact Calls.loadGlobal_global hg hm hQ
  | none => rw [hm] at hv; exact Calls.loadGlobal_builtin hg hm hb hv hQ

/-- two in a row -/
theorem R_two {t₁ t₂ : Sem Value} {Ψ₁ : D → Store → Prop} {k : Value → Value → Shared → Prop} {P s} (g : Good c nm vs env ρ σ P s) {Φ : D → D → Store → Prop}
    (h₁ : WPv c A nm vs env ρ σ t₁ Ψ₁) (h₂ : ∀ d σ', Ψ₁ d σ' → WPv c A nm vs env ρ σ' t₂ (Φ d))
    (hk : ∀ v₁ v₂ d₁ d₂ σ' s', Φ d₁ d₂ σ' → Step c.W noF σ σ' s s' → Good c nm vs env ρ σ' P s' → Rep (nd σ' P) s'.heap d₁ v₁ → Rep (nd σ' P) s'.heap d₂ v₂ → k v₁ v₂ s') :
    wpAny c.M A t₁ (fun v₁ s₁ => wpAny c.M A t₂ (fun v₂ s₂ => k v₁ v₂ s₂) c.E s₁) c.E s := by
  refine h₁ P s g _ fun v₁ d₁ σ₁ s₁ a₁ st₁ ok₁ r₁ => ?_
  have g₁ := g.next st₁ ok₁
  refine h₂ d₁ σ₁ a₁ P s₁ g₁ _ fun v₂ d₂ σ₂ s₂ a₂ st₂ ok₂ r₂ => ?_
  exact hk v₁ v₂ d₁ d₂ σ₂ s₂ a₂ (st₁.trans st₂) (g₁.next st₂ ok₂) (Rep.stay (st₂.stay g.wp) _ _ r₁) r₂

theorem truthS_sound {d : D} {v : Value} {Φ : Bool → Store → Prop} {P s} {Q : Bool → Shared → Prop} {E : Value → Shared → Prop} (h : truthS d σ Φ) (hr : Rep (nd σ P) s.heap d v) (hQ : ∀ b, Φ b σ → Q b s) : wpAny c.M A (truthy v) Q E s := by
  cases d <;> simp only [truthS] at h
  simp only [Rep] at hr
  subst hr
  exact wpAny_truthy_bool (hQ _ h)
end
end Mine
end
section
open PySem PyProof.Rows
set_option Elab.async false
namespace Mine

/-! ### dicts with whole numbers as keys -/
theorem isInt_val {k : Int} {v : Value} (h : Value.isInt k v = true) : ∃ t, v = .int k t := Value.isInt_shape h

theorem pairs_of_entI {prog : Program} {w : World} : ∀ {es : List DictEntry} {ks : List Int} {us : List Value}, EntI es ks us → Pairs (intKind prog w) es (ks.zip us) ∧ (∀ e ∈ es, ∃ k, (intKind prog w).is k e.key = true ∧ e.hash = (intKind prog w).hash k) ∧ us.length = ks.length
  | [], [], [], _ => ⟨.nil, fun _ h => by simp at h, rfl⟩
  | [], [], _ :: _, h => by simp [EntI] at h
  | [], _ :: _, _, h => by simp [EntI] at h
  | _ :: _, [], _, h => by simp [EntI] at h
  | _ :: _, _ :: _, [], h => by simp [EntI] at h
  | e :: es, k :: ks, u :: us, h => by
    simp only [EntI] at h
    obtain ⟨⟨t, h1⟩, h2, h3, h4⟩ := h
    obtain ⟨p1, p2, p3⟩ := pairs_of_entI (prog := prog) (w := w) h4
    have his : (intKind prog w).is k e.key = true := by rw [h1]; exact intKind_is prog w k t
    refine ⟨.cons his h3 p1, fun x hx => ?_, by simp [p3]⟩
    rcases List.mem_cons.mp hx with rfl | hx
    · exact ⟨k, his, h2⟩
    · exact p2 x hx
theorem entI_of_pairs {prog : Program} {w : World} : ∀ {es : List DictEntry} {ks : List Int} {us : List Value}, us.length = ks.length → Pairs (intKind prog w) es (ks.zip us) → (∀ e ∈ es, ∃ k, (intKind prog w).is k e.key = true ∧ e.hash = (intKind prog w).hash k) → EntI es ks us
  | es, [], [], _, p, _ => by cases p; simp [EntI]
  | es, [], _ :: _, h, _, _ => by simp at h
  | es, _ :: _, [], h, _, _ => by simp at h
  | es, k :: ks, u :: us, h, p, hk => by
    rw [List.zip_cons_cons] at p
    cases p with
    | @cons e kv es kvs h1 h2 h3 =>
      simp only [EntI]
      obtain ⟨t, ht⟩ := isInt_val (k := k) h1
      refine ⟨⟨t, ht⟩, ?_, h2, entI_of_pairs (by simpa using h) h3 fun x hx => hk x (List.mem_cons_of_mem _ hx)⟩
      obtain ⟨k', q1, q2⟩ := hk e List.mem_cons_self
      have : k' = k := (intKind prog w).inj e.key k' k q1 h1
      subst this; exact q2

theorem map_fst_zip' {ks : List Int} {us : List Value} (h : us.length = ks.length) : (ks.zip us).map (·.1) = ks := List.map_fst_zip (Nat.le_of_eq h.symm)

theorem dictOf_of_mrep {prog : Program} {w : World} {σ : Store} {P : Addr → Prop} {h : Heap} {a : Addr} {kvs : List (Int × D)} (x : MRep σ P h a (.mdict kvs)) :
    ∃ us, us.length = kvs.length ∧ h.DictOf (intKind prog w) a ((kvs.map (·.1)).zip us) ∧ RepL (nd σ P) h (kvs.map (·.2)) us ∧ a ≠ sysModules ∧ (kvs.map (·.1)).Nodup ∧ ∃ o, h.get? a = some o ∧ o.dict = none := by
  obtain ⟨n, es, us, h1, h2, h3, h4, h5⟩ := x
  obtain ⟨p1, p2, p3⟩ := pairs_of_entI (prog := prog) (w := w) h2
  refine ⟨us, by simpa using p3, ⟨_, es.toArray, n, h1, ⟨rfl, rfl, rfl⟩, rfl, fun e he => p2 e (by simpa using he), by simpa using p1, ?_⟩, h3, h5, h4, _, h1, rfl⟩
  rw [map_fst_zip' p3]; exact h4

theorem mrep_of_dictOf {prog : Program} {w : World} {σ : Store} {P : Addr → Prop} {h : Heap} {a : Addr} {kvs : List (Int × D)} {us : List Value} (hd : h.DictOf (intKind prog w) a ((kvs.map (·.1)).zip us)) (hr : RepL (nd σ P) h (kvs.map (·.2)) us) (ha : a ≠ sysModules) :
    MRep σ P h a (.mdict kvs) := by
  obtain ⟨⟨cls, dd, data, sl⟩, es, ep, ho, ⟨hc1, hc2, hc3⟩, hdat, hk, hp, hn⟩ := hd
  simp only at hc1 hc2 hc3 hdat
  subst hc1 hc2 hc3 hdat
  have hl : us.length = (kvs.map (·.1)).length := by rw [hr.length]; simp
  refine ⟨ep, es.toList, us, by simpa using ho, entI_of_pairs hl hp fun e he => hk e (by simpa using he), hr, ?_, ha⟩
  rwa [map_fst_zip' hl] at hn

section
variable {N : Addr → Prop} {h : Heap}
theorem zip_get {k : Int} {d : D} : ∀ {kvs : List (Int × D)} {us : List Value}, RepL N h (kvs.map (·.2)) us → getK k kvs = some d → ∃ v, valueAt ((kvs.map (·.1)).zip us) k = some v ∧ Rep N h d v
  | [], us, _, e => by cases e
  | (j, x) :: r, us, hr, e => by
    simp only [List.map_cons, RepL] at hr
    obtain ⟨v, us', rfl, h1, h2⟩ := hr
    unfold getK at e
    simp only [List.map_cons, List.zip_cons_cons, valueAt, List.find?_cons]
    by_cases hj : j = k
    · rw [if_pos hj] at e; cases e
      simp only [hj, decide_true]
      exact ⟨v, rfl, h1⟩
    · rw [if_neg hj] at e
      simp only [hj, decide_false]
      exact zip_get h2 e
theorem zip_none {k : Int} : ∀ {kvs : List (Int × D)} {us : List Value}, getK k kvs = Option.none → valueAt ((kvs.map (·.1)).zip us) k = none
  | [], us, _ => rfl
  | (j, x) :: r, [], _ => rfl
  | (j, x) :: r, u :: us, e => by
    unfold getK at e
    by_cases hj : j = k
    · rw [if_pos hj] at e; cases e
    · rw [if_neg hj] at e
      simp only [List.map_cons, List.zip_cons_cons, valueAt, List.find?_cons, hj, decide_false]
      exact zip_none e
theorem zip_isSome {k : Int} {kvs : List (Int × D)} {us : List Value} (hr : RepL N h (kvs.map (·.2)) us) : (valueAt ((kvs.map (·.1)).zip us) k).isSome = (getK k kvs).isSome := by
  cases e : getK k kvs with
  | none => rw [zip_none e]; rfl
  | some d => obtain ⟨v, h1, _⟩ := zip_get hr e; rw [h1]; rfl

noncomputable def putR (k : Int) (v : Value) : List (Int × Value) → List (Int × Value)
  | [] => [(k, v)]
  | (j, x) :: r => if j = k then (j, v) :: r else (j, x) :: putR k v r
theorem stored_putR (k : Int) (v : Value) : ∀ (l : List (Int × Value)), (l.map (·.1)).Nodup → stored l k v = putR k v l
  | [], _ => rfl
  | (j, x) :: r, hn => by
    simp only [List.map_cons, List.nodup_cons] at hn
    unfold putR
    by_cases hj : j = k
    · rw [if_pos hj]
      subst hj
      unfold stored
      rw [if_pos (by simp), List.map_cons, if_pos rfl, map_store_of_not_mem r _ v hn.1]
    · rw [if_neg hj, ← stored_putR k v r hn.2]
      unfold stored
      by_cases ha : (r.any fun kv => decide (kv.1 = k)) = true
      · rw [if_pos ha, if_pos (by simp only [List.any_cons, ha, Bool.or_true]), List.map_cons, if_neg hj]
      · rw [if_neg ha, if_neg (by simp only [List.any_cons, hj, decide_false, Bool.false_or]; exact ha), List.cons_append]
theorem zip_putR {k : Int} {d : D} {v : Value} (hd : Rep N h d v) : ∀ {kvs : List (Int × D)} {us : List Value}, RepL N h (kvs.map (·.2)) us →
    ∃ us', RepL N h ((putK k d kvs).map (·.2)) us' ∧ putR k v ((kvs.map (·.1)).zip us) = ((putK k d kvs).map (·.1)).zip us'
  | [], us, hr => ⟨[v], RepL.one hd, rfl⟩
  | (j, x) :: r, us, hr => by
    simp only [List.map_cons, RepL] at hr
    obtain ⟨u, us', rfl, h1, h2⟩ := hr
    unfold putK
    simp only [List.map_cons, List.zip_cons_cons, putR]
    by_cases hj : j = k
    · rw [if_pos hj, if_pos hj]
      exact ⟨v :: us', RepL.cons hd h2, rfl⟩
    · rw [if_neg hj, if_neg hj]
      obtain ⟨us'', q1, q2⟩ := zip_putR hd h2
      exact ⟨u :: us'', RepL.cons h1 q1, by rw [q2]; rfl⟩
theorem zip_del {k : Int} : ∀ {kvs : List (Int × D)} {us : List Value}, RepL N h (kvs.map (·.2)) us →
    ∃ us', RepL N h ((delK k kvs).map (·.2)) us' ∧ without ((kvs.map (·.1)).zip us) k = ((delK k kvs).map (·.1)).zip us'
  | [], us, hr => ⟨[], RepL.nil, rfl⟩
  | (j, x) :: r, us, hr => by
    simp only [List.map_cons, RepL] at hr
    obtain ⟨u, us', rfl, h1, h2⟩ := hr
    obtain ⟨us'', q1, q2⟩ := zip_del (k := k) h2
    unfold delK without at *
    simp only [List.map_cons, List.zip_cons_cons, List.filter_cons]
    by_cases hj : j = k
    · rw [if_neg (by simp [hj]), if_neg (by simp [hj])]
      exact ⟨us'', q1, q2⟩
    · rw [if_pos (by simp [hj]), if_pos (by simp [hj])]
      exact ⟨u :: us'', RepL.cons h1 q1, by rw [q2]; rfl⟩
end

theorem putK_length_le (k : Int) (d : D) : ∀ kvs : List (Int × D), (putK k d kvs).length ≤ kvs.length + 1
  | [] => Nat.le_refl _
  | (j, x) :: r => by
    unfold putK
    split
    · simp
    · simpa using putK_length_le k d r
end Mine
end
section
open PySem PyProof.Rows
set_option Elab.async false
namespace Mine

theorem sizeLine_small : small ≤ sizeLine := by decide
theorem small_63 {n : Nat} (h : n ≤ small) : ((n : Nat) : Int) < 2 ^ 63 := by unfold small at h; omega

theorem big_9000 : 10 ^ 50 ≤ 2 ^ 9000 := Nat.le_trans (by decide : 10 ^ 50 ≤ 2 ^ 200) (Nat.pow_le_pow_right (by decide) (by decide))

theorem add_list_any {prog : Program} {w : World} {A : Around} {E : Value → Shared → Prop} {s : Shared} {l b : Addr} {its its2 : Array Value} {Q : Value → Shared → Prop} (hl : s.heap.IsList l its) (hb : s.heap.IsList b its2)
    (h : Q (.ref s.heap.objs.size) { s with heap := s.heap.push { cls := .type "list", data := .seq (its ++ its2) } }) (hsz : its.size + its2.size ≤ sizeLine) : wpAny (model prog w) A (binaryOp .Add (.ref l) (.ref b)) Q E s := by
  obtain ⟨⟨cls, dd, data, sl⟩, ho, hc, n, hd⟩ := id hl
  obtain ⟨⟨cls2, dd2, data2, sl2⟩, ho2, hc2, n2, hd2⟩ := id hb
  simp only at hc hd hc2 hd2
  subst hc hd hc2 hd2
  exact concat_meets ⟨_, ho, rfl⟩ ⟨_, ho2, rfl⟩ noFill_list_add seq_list_add PySem.F.slot_list_add PySem.F.entry_list_add (PySem.F.args_list_add_2 _ _) (list_addW l b its its2 n n2 dd dd2 sl sl2 hsz) ⟨ho, ho2, h⟩

section
variable {c : Cx} {A : Around} {nm : Nat → Str} {vs : List Nat} {env : Env} {ρ : PEnv} {σ : Store} {P : Addr → Prop} {s : Shared} {Q : Value → Shared → Prop} {E : Value → Shared → Prop} {Φ : D → Store → Prop}

theorem newList_rep (g : Good c nm vs env ρ σ P s) {ds : List D} {us : List Value} {h' : Heap} (k : ∀ a o, s.heap.get? a = some o → h'.get? a = some o) {a : Addr} (ha : s.heap.get? a = none) {n : Nat}
    (hn : ∃ o, h'.get? a = some o ∧ o.cls = .type "list" ∧ o.data = .seq us.toArray n) (hr : RepL (nd σ P) s.heap ds us) : nd σ P a ∧ Rep (nd σ P) h' (.list ds) (.ref a) := by
  have hN : nd σ P a := g.nd_of_none ha
  obtain ⟨o, ho, hc, hd⟩ := hn
  refine ⟨hN, ?_⟩
  simp only [Rep]
  exact ⟨a, us.toArray, rfl, hN, ⟨o, ho, hc, n, hd⟩, by simpa using RepL.keeps hr k⟩

theorem dom_set {σ : Store} {a b : Addr} {ds : List D} : dom (σ.set a (.mlist ds)) b → dom σ b ∨ b = a := by
  intro h
  rcases h with h | ⟨x, C, fs, h⟩
  · unfold Store.set at h
    by_cases e : b = a
    · exact .inr e
    · rw [if_neg e] at h; exact .inl (.inl h)
  · unfold Store.set at h
    by_cases e : x = a
    · rw [if_pos e] at h; cases h
    · rw [if_neg e] at h; exact .inl (.inr ⟨x, C, fs, h⟩)

/-- a new list becomes a store object -/
theorem alloc_mut (g : Good c nm vs env ρ σ P s) {ds : List D} {us : List Value} {s' : Shared} (k : Keeps s s') {a : Addr} (ha : s.heap.get? a = none) (hn : s'.heap.PlainList a us.toArray) (hr : RepL (nd σ P) s.heap ds us) :
    freshIn σ a ∧ Step c.W noF σ (σ.set a (.mlist ds)) s s' ∧ StoreOk (σ.set a (.mlist ds)) P s'.heap := by
  have kh := keeps_heap k
  have nda : ¬ dom σ a := fun hd => by obtain ⟨o, ho⟩ := g.st.alive hd; rw [ha] at ho; cases ho
  have npa : ¬ P a := fun hp => by obtain ⟨o, ho⟩ := g.prot _ hp; rw [ha] at ho; cases ho
  have hf : freshIn σ a := ⟨by
    cases e : σ a with
    | none => rfl
    | some m => exact absurd (Or.inl (by rw [e]; exact Option.some_ne_none m)) nda, fun x C fs e => nda (.inr ⟨x, C, fs, e⟩)⟩
  have st : Stay (nd σ P) (nd (σ.set a (.mlist ds)) P) s.heap s'.heap := fun b o hN ho _ => ⟨kh b o ho, fun hd => (dom_set hd).elim hN.1 (fun e => by subst e; rw [ha] at ho; cases ho), hN.2⟩
  refine ⟨hf, Step.mk' (Step.of_keeps (W := c.W) (F := noF) (σ := σ) k).same (fun b o e _ _ => kh b o e) (fun b o e => ⟨o, kh b o e⟩) (fun b hb => (dom_set hb).imp id (fun e : b = a => by rw [e]; exact ha)), ⟨fun b mo e => ?_, fun x C dx fs e => ?_, fun b hb => ?_⟩⟩
  · unfold Store.set at e
    by_cases hb : b = a
    · rw [if_pos hb] at e
      cases e
      subst hb
      exact ⟨us.toArray, hn, by simpa using RepL.stay st _ _ hr⟩
    · rw [if_neg hb] at e
      exact (g.st.rep b mo e).stay st fun b' o _ ho => kh b' o ho
  · unfold Store.set at e ⊢
    by_cases hx : x = a
    · rw [if_pos hx] at e; cases e
    · rw [if_neg hx] at e
      obtain ⟨h1, h2⟩ := g.st.apart x C dx fs e
      refine ⟨?_, fun y C' fs' e' => ?_⟩
      · rw [if_neg (fun q : dx = a => hf.2 x C fs (q ▸ e))]; exact h1
      · by_cases hy : y = a
        · rw [if_pos hy] at e'; cases e'
        · rw [if_neg hy] at e'; exact h2 y C' fs' e'
  · rcases dom_set hb with h | h
    · exact g.st.free b h
    · subst h; exact npa

/-- a new list ends by mkS -/
theorem fin_list (g : Good c nm vs env ρ σ P s) {m : Bool} {ds : List D} {us : List Value} {s' : Shared} (hΦ : mkS m ds σ Φ) (hQ : ∀ v d σ' s', Φ d σ' → Step c.W noF σ σ' s s' → StoreOk σ' P s'.heap → Rep (nd σ' P) s'.heap d v → Q v s')
    (k : Keeps s s') {a : Addr} (ha : s.heap.get? a = none) (hn : s'.heap.PlainList a us.toArray) (hr : RepL (nd σ P) s.heap ds us) : Q (.ref a) s' := by
  unfold mkS at hΦ
  cases m with
  | false =>
    simp only [Bool.false_eq_true, if_false] at hΦ
    obtain ⟨n, ho⟩ := hn
    exact fin_keeps g hQ hΦ k (newList_rep g (keeps_heap k) ha ⟨_, ho, rfl, rfl⟩ hr).2
  | true =>
    simp only [if_true] at hΦ
    obtain ⟨hf, st, ok⟩ := alloc_mut g k ha hn hr
    exact hQ _ (.obj a) _ s' (hΦ a hf) st ok (by simp [Rep])

/-- a new tuple -/
theorem fin_tuple (g : Good c nm vs env ρ σ P s) {ds : List D} {us : List Value} {s' : Shared} (hΦ : Φ (.tuple ds) σ) (hQ : ∀ v d σ' s', Φ d σ' → Step c.W noF σ σ' s s' → StoreOk σ' P s'.heap → Rep (nd σ' P) s'.heap d v → Q v s')
    (k : Keeps s s') {a : Addr} (ha : s.heap.get? a = none) (hn : s'.heap.IsTuple a us.toArray) (hr : RepL (nd σ P) s.heap ds us) : Q (.ref a) s' := by
  refine fin_keeps g hQ hΦ k ?_
  simp only [Rep]
  exact ⟨a, us.toArray, rfl, g.nd_of_none ha, hn, by simpa using RepL.keeps hr (keeps_heap k)⟩

/-- what a sequence is in the heap -/
theorem asL_heap (ok : StoreOk σ P s.heap) {d : D} {v : Value} {xs : List D} (hr : Rep (nd σ P) s.heap d v) (e : asL σ d = some xs) :
    ∃ a us, v = .ref a ∧ (s.heap.IsList a us ∨ s.heap.IsTuple a us) ∧ RepL (nd σ P) s.heap xs us.toList := by
  cases d <;> simp only [asL] at e <;> try cases e
  · simp only [Rep] at hr
    obtain ⟨a, us, h1, _, h2, h3⟩ := hr
    exact ⟨a, us, h1, .inr h2, h3⟩
  · simp only [Rep] at hr
    obtain ⟨a, us, h1, _, h2, h3⟩ := hr
    exact ⟨a, us, h1, .inl h2, h3⟩
  · rename_i a
    simp only [Rep] at hr
    cases h : σ a with
    | none => rw [h] at e; cases e
    | some mo =>
      rw [h] at e
      cases mo with
      | mlist ds =>
        cases e
        obtain ⟨us, h1, h2⟩ := ok.rep a _ h
        exact ⟨a, us, hr, .inl h1.isList, h2⟩
      | inst C dx fs => cases e
      | mdict kvs => cases e

theorem asList_heap (ok : StoreOk σ P s.heap) {d : D} {v : Value} {xs : List D} (hr : Rep (nd σ P) s.heap d v) (e : asL σ d = some xs) (ht : isTuple d = false) :
    ∃ a us, v = .ref a ∧ s.heap.IsList a us ∧ RepL (nd σ P) s.heap xs us.toList := by
  cases d <;> simp only [asL] at e <;> try cases e
  · cases ht
  · simp only [Rep] at hr
    obtain ⟨a, us, h1, _, h2, h3⟩ := hr
    exact ⟨a, us, h1, h2, h3⟩
  · rename_i a
    simp only [Rep] at hr
    cases h : σ a with
    | none => rw [h] at e; cases e
    | some mo =>
      rw [h] at e
      cases mo with
      | mlist ds =>
        cases e
        obtain ⟨us, h1, h2⟩ := ok.rep a _ h
        exact ⟨a, us, hr, h1.isList, h2⟩
      | inst C dx fs => cases e
      | mdict kvs => cases e
theorem asTuple_heap {d : D} {v : Value} {xs : List D} (hr : Rep (nd σ P) s.heap d v) (e : asL σ d = some xs) (ht : isTuple d = true) :
    ∃ a us, v = .ref a ∧ nd σ P a ∧ s.heap.IsTuple a us ∧ RepL (nd σ P) s.heap xs us.toList ∧ d = .tuple xs := by
  cases d <;> simp only [isTuple] at ht <;> try cases ht
  simp only [asL] at e
  cases e
  simp only [Rep] at hr
  obtain ⟨a, us, h1, h0, h2, h3⟩ := hr
  exact ⟨a, us, h1, h0, h2, h3, rfl⟩

theorem binX_sound {op : Operator} {a b : D} {v u : Value} (g : Good c nm vs env ρ σ P s) (h : binX op a b σ Φ) (ha : Rep (nd σ P) s.heap a v) (hb : Rep (nd σ P) s.heap b u)
    (hQ : ∀ v d σ' s', Φ d σ' → Step c.W noF σ σ' s s' → StoreOk σ' P s'.heap → Rep (nd σ' P) s'.heap d v → Q v s') : wpAny c.M A (binaryOp op v u) Q E s := by
  unfold binX at h
  split at h
  · obtain ⟨xs, ys, e1, e2, hn, ⟨t1, t2, h⟩ | ⟨t1, t2, h⟩⟩ := h
    · obtain ⟨l, us, rfl, hl, hr⟩ := asList_heap g.st ha e1 t1
      obtain ⟨l', us', rfl, hl', hr'⟩ := asList_heap g.st hb e2 t2
      have q1 := hr.length; have q2 := hr'.length
      simp only [Array.length_toList] at q1 q2
      refine add_list_any hl hl' ?_ (by have := sizeLine_small; omega)
      refine fin_keeps g hQ h (keeps_push' s _) (newList_rep g (keeps_heap (keeps_push' s _)) (get?_size_none _) (n := 0) ⟨_, Heap.get?_push_size _ rfl, rfl, ?_⟩ (us := us.toList ++ us'.toList) (hr.append hr')).2
      simp
    · obtain ⟨l, us, rfl, n1, hl, hr, rfl⟩ := asTuple_heap ha e1 t1
      obtain ⟨l', us', rfl, n2, hl', hr', rfl⟩ := asTuple_heap hb e2 t2
      have q1 := hr.length; have q2 := hr'.length
      simp only [Array.length_toList] at q1 q2
      obtain ⟨⟨cls, dd, data, sl⟩, ho, hc, n, hd⟩ := id hl
      obtain ⟨⟨cls2, dd2, data2, sl2⟩, ho2, hc2, m, hd2⟩ := id hl'
      simp only at hc hd hc2 hd2
      subst hc hd hc2 hd2
      by_cases z1 : us.isEmpty = true
      · refine concat_meets ⟨_, ho, rfl⟩ ⟨_, ho2, rfl⟩ noFill_tuple_add seq_tuple_add PySem.F.slot_tuple_add PySem.F.entry_tuple_add (PySem.F.args_tuple_add_2 _ _) (tuple_addW0 l l' us us' n m dd dd2 sl sl2 z1) ⟨ho, ho2, ?_⟩
        have : xs = [] := by
          have z : us.size = 0 := by simpa using z1
          exact List.eq_nil_of_length_eq_zero (by omega)
        subst this
        exact fin_keeps g hQ h (keeps_refl s) hb
      · by_cases z2 : us'.isEmpty = true
        · refine concat_meets ⟨_, ho, rfl⟩ ⟨_, ho2, rfl⟩ noFill_tuple_add seq_tuple_add PySem.F.slot_tuple_add PySem.F.entry_tuple_add (PySem.F.args_tuple_add_2 _ _) (tuple_addW1 l l' us us' n m dd dd2 sl sl2 z1 z2) ⟨ho, ho2, ?_⟩
          have : ys = [] := by
            have z : us'.size = 0 := by simpa using z2
            exact List.eq_nil_of_length_eq_zero (by omega)
          subst this
          rw [List.append_nil] at h
          exact fin_keeps g hQ h (keeps_refl s) ha
        · refine concat_meets ⟨_, ho, rfl⟩ ⟨_, ho2, rfl⟩ noFill_tuple_add seq_tuple_add PySem.F.slot_tuple_add PySem.F.entry_tuple_add (PySem.F.args_tuple_add_2 _ _) (tuple_addW2 l l' us us' n m dd dd2 sl sl2 z1 z2 (by have := sizeLine_small; omega)) ⟨ho, ho2, ?_⟩
          refine fin_tuple g h hQ (keeps_push' s _) (get?_size_none _) (us := us.toList ++ us'.toList) ⟨_, Heap.get?_push_size _ rfl, rfl, 0, ?_⟩ (hr.append hr')
          simp
  · exact h.elim

theorem intS_elim {a b : D} {v u : Value} {N : Addr → Prop} {h' : Heap} {K : Int → Int → Prop} (h : intS a b K) (ha : Rep N h' a v) (hb : Rep N h' b u) : ∃ x y t t', v = .int x t ∧ u = .int y t' ∧ K x y := by
  cases a with
  | int x =>
    cases b with
    | int y =>
      obtain ⟨t, rfl⟩ : ∃ t, v = .int x t := ha
      obtain ⟨t', rfl⟩ : ∃ t, u = .int y t := hb
      exact ⟨x, y, t, t', rfl, rfl, h⟩
    | _ => exact (show False from h).elim
  | _ => exact (show False from h).elim
theorem addS_sound {a b : D} {v u : Value} (g : Good c nm vs env ρ σ P s) (h : addS a b σ Φ) (ha : Rep (nd σ P) s.heap a v) (hb : Rep (nd σ P) s.heap b u)
    (hQ : ∀ v d σ' s', Φ d σ' → Step c.W noF σ σ' s s' → StoreOk σ' P s'.heap → Rep (nd σ' P) s'.heap d v → Q v s') : wpAny c.M A (binaryOp .Add v u) Q E s := by
  cases a with
  | int x =>
    obtain ⟨x, y, t, t', rfl, rfl, h⟩ := intS_elim (a := .int x) (b := b) (K := fun x y => Φ (.int (x + y)) σ) h ha hb
    exact PyProof.Rows.add_int (fin_keeps g hQ h (keeps_toks s _) rep_int)
  | list xs =>
    cases b with
    | list ys =>
      have h : xs.length + ys.length ≤ small ∧ Φ (.list (xs ++ ys)) σ := h
      obtain ⟨l, us, rfl, _, hl, hr⟩ : ∃ a vs, v = .ref a ∧ nd σ P a ∧ s.heap.IsList a vs ∧ RepL (nd σ P) s.heap xs vs.toList := ha
      obtain ⟨l', us', rfl, _, hl', hr'⟩ : ∃ a vs, u = .ref a ∧ nd σ P a ∧ s.heap.IsList a vs ∧ RepL (nd σ P) s.heap ys vs.toList := hb
      have e1 := hr.length; have e2 := hr'.length
      simp only [Array.length_toList] at e1 e2
      refine add_list_any hl hl' ?_ (by have := h.1; have := sizeLine_small; omega)
      refine fin_keeps g hQ h.2 (keeps_push' s _) (newList_rep g (keeps_heap (keeps_push' s _)) (get?_size_none _) (n := 0) ⟨_, Heap.get?_push_size _ rfl, rfl, ?_⟩ (us := us.toList ++ us'.toList) (hr.append hr')).2
      simp
    | _ => exact binX_sound g h ha hb hQ
  | _ => exact binX_sound g h ha hb hQ
theorem binS_sound {op : Operator} {a b : D} {v u : Value} (g : Good c nm vs env ρ σ P s) (h : binS op a b σ Φ) (ha : Rep (nd σ P) s.heap a v) (hb : Rep (nd σ P) s.heap b u)
    (hQ : ∀ v d σ' s', Φ d σ' → Step c.W noF σ σ' s s' → StoreOk σ' P s'.heap → Rep (nd σ' P) s'.heap d v → Q v s') : wpAny c.M A (binaryOp op v u) Q E s := by
  cases op with
  | Add => exact addS_sound g h ha hb hQ
  | Sub =>
    obtain ⟨x, y, t, t', rfl, rfl, h⟩ := intS_elim h ha hb
    exact PyProof.Rows.sub_int (fin_keeps g hQ h (keeps_toks s _) rep_int)
  | Mult =>
    obtain ⟨x, y, t, t', rfl, rfl, h⟩ := intS_elim h ha hb
    exact PyProof.Rows.mul_int (fin_keeps g hQ h.2 (keeps_toks s _) rep_int) (by
      have h1 := h.1
      unfold IntMulOk
      intro hx
      simp only [Bool.and_eq_true, decide_eq_true_eq] at hx
      rcases h1 with h1 | h1
      · exact absurd hx.1.1 (Nat.not_lt.mpr (Nat.le_trans (PyProof.Rows.intBits_le h1) (by decide)))
      · exact absurd hx.1.2 (Nat.not_lt.mpr (Nat.le_trans (PyProof.Rows.intBits_le h1) (by decide))))
  | Mod =>
    obtain ⟨x, y, t, t', rfl, rfl, h⟩ := intS_elim h ha hb
    refine PyProof.Rows.mod_int (Int.ne_of_gt h.1) ?_
    rw [Int.fmod_eq_emod_of_nonneg x (Int.le_of_lt h.1)]
    exact fin_keeps g hQ h.2 (keeps_toks s _) rep_int
  | FloorDiv =>
    obtain ⟨x, y, t, t', rfl, rfl, h⟩ := intS_elim h ha hb
    have h1 := h.1
    refine PyProof.Rows.floordiv_int (Int.ne_of_gt h1.1) ?_ (Or.inl (PyProof.noPylong_of_log2 ?_))
    · rw [Int.fdiv_eq_ediv_of_nonneg x (Int.le_of_lt h1.1)]
      exact fin_keeps g hQ h.2 (keeps_toks s _) rep_int
    · have h3 : y.natAbs ≠ 0 := by omega
      refine (Nat.log2_lt h3).mpr ?_
      have h4 := h1.2
      refine Nat.lt_of_lt_of_le (m := 10 ^ 50) ?_ big_9000
      omega
  | Pow =>
    obtain ⟨x, y, t, t', rfl, rfl, h⟩ := intS_elim h ha hb
    exact PyProof.Rows.pow_int h.1.1 h.1.2 (fin_keeps g hQ h.2 (keeps_toks s _) rep_int)
  | _ => exact (show False from h).elim
end
end Mine
end
section
open PySem PyProof.Rows
set_option Elab.async false
namespace Mine

theorem beq_dec (x y : Int) : (x == y) = decide (x = y) := by by_cases h : x = y <;> simp [h]
theorem isTup_of {h : Heap} {a : Addr} {us : Array Value} (x : h.IsTuple a us) : IsTup h a us.toList.toArray := by rw [Array.toArray_toList]; exact x

mutual
theorem reads_of {N : Addr → Prop} {h : Heap} : ∀ (d : D) (v : Value) (x : PyData), Rep N h d v → D.py d = some x → ∃ as, Reads h v x as
  | .none, v, x, r, e => by simp only [Rep] at r; simp only [D.py] at e; cases e; subst r; exact ⟨_, .none⟩
  | .bool b, v, x, r, e => by simp only [Rep] at r; simp only [D.py] at e; cases e; subst r; exact ⟨_, .bool b⟩
  | .int i, v, x, r, e => by simp only [Rep] at r; simp only [D.py] at e; cases e; obtain ⟨t, rfl⟩ := r; exact ⟨_, .int i t⟩
  | .str i, v, x, r, e => by simp only [Rep] at r; simp only [D.py] at e; cases e; obtain ⟨t, rfl⟩ := r; exact ⟨_, .str i t⟩
  | .obj a, v, x, r, e => by simp only [D.py] at e; cases e
  | .tuple ds, v, x, r, e => by
    simp only [Rep] at r
    simp only [D.py, Option.map_eq_some_iff] at e
    obtain ⟨xs, e1, rfl⟩ := e
    obtain ⟨a, us, rfl, _, ⟨o, ho, hc, n, hd⟩, hl⟩ := r
    obtain ⟨as, ra⟩ := readsL_of ds us.toList xs hl e1
    exact ⟨_, .tuple ho hc hd ra⟩
  | .list ds, v, x, r, e => by
    simp only [Rep] at r
    simp only [D.py, Option.map_eq_some_iff] at e
    obtain ⟨xs, e1, rfl⟩ := e
    obtain ⟨a, us, rfl, _, ⟨o, ho, hc, n, hd⟩, hl⟩ := r
    obtain ⟨as, ra⟩ := readsL_of ds us.toList xs hl e1
    exact ⟨_, .list ho hc hd ra⟩
theorem readsL_of {N : Addr → Prop} {h : Heap} : ∀ (ds : List D) (vs : List Value) (xs : List PyData), RepL N h ds vs → D.pys ds = some xs → ∃ as, ReadsAll h vs xs as
  | [], vs, xs, r, e => by simp only [RepL] at r; simp only [D.pys] at e; cases e; subst r; exact ⟨_, .nil⟩
  | d :: ds, vs, xs, r, e => by
    simp only [RepL] at r
    obtain ⟨v, u, rfl, h1, h2⟩ := r
    simp only [D.pys, Option.bind_eq_some_iff, Option.map_eq_some_iff] at e
    obtain ⟨y, e1, ys, e2, rfl⟩ := e
    obtain ⟨as, ra⟩ := reads_of d v y h1 e1
    obtain ⟨bs, rb⟩ := readsL_of ds u ys h2 e2
    exact ⟨_, .cons ra rb⟩
end

section
variable {c : Cx} {A : Around} {nm : Nat → Str} {vs : List Nat} {env : Env} {ρ : PEnv} {σ : Store} {P : Addr → Prop} {s : Shared} {Q : Value → Shared → Prop} {E : Value → Shared → Prop} {Φ : D → Store → Prop}

theorem eqP_reads (ok : StoreOk σ P s.heap) {d : D} {v : Value} {x : PyData} (hr : Rep (nd σ P) s.heap d v) (e : eqP σ d = some x) : ∃ as, Reads s.heap v x as := by
  cases d with
  | obj a =>
    simp only [eqP] at e
    simp only [Rep] at hr
    subst hr
    cases h : σ a with
    | none => rw [h] at e; cases e
    | some mo =>
      rw [h] at e
      cases mo with
      | mlist ds =>
        simp only [Option.map_eq_some_iff] at e
        obtain ⟨xs, e1, rfl⟩ := e
        obtain ⟨us, ⟨n, ho⟩, hl⟩ := ok.rep a _ h
        obtain ⟨as, ra⟩ := readsL_of ds us.toList xs hl e1
        exact ⟨_, .list ho rfl rfl ra⟩
      | inst C dx fs => cases e
      | mdict kvs => cases e
  | _ => exact reads_of _ v x hr (by simpa only [eqP] using e)

theorem isNone_val {d : D} {v : Value} {t : Bool} (hr : Rep (nd σ P) s.heap d v) (e : isNone d = some t) : (v == Value.none) = t := by
  cases d <;> simp only [isNone] at e <;> cases e <;> simp only [Rep] at hr
  · subst hr; rfl
  · subst hr; rfl
  · obtain ⟨t, rfl⟩ := hr; rfl
  · obtain ⟨t, rfl⟩ := hr; rfl
  · obtain ⟨a, us, rfl, _⟩ := hr; rfl
  · obtain ⟨a, us, rfl, _⟩ := hr; rfl
  · subst hr; rfl

theorem ints_of_repL {N : Addr → Prop} {h : Heap} : ∀ {ns : List Int} {us : List Value}, RepL N h (ns.map D.int) us → IntsAre us ns
  | [], us, x => by simp only [List.map_nil, RepL] at x; subst x; exact .nil
  | n :: r, us, x => by
    simp only [List.map_cons, RepL, Rep] at x
    obtain ⟨v, q, rfl, ⟨t, rfl⟩, hq⟩ := x
    exact .cons n t (ints_of_repL hq)
noncomputable def eqI (k : Int) (v : Value) : Bool := match v with
  | .int i _ => i == k
  | _ => false
theorem any_eqI {k : Int} : ∀ {us : List Value} {ns : List Int}, IntsAre us ns → us.any (eqI k) = ns.contains k
  | _, _, .nil => rfl
  | _, _, .cons n t r => by
    rw [List.any_cons, List.contains_cons, any_eqI r]
    congr 1
    show (n == k) = (k == n)
    by_cases h : n = k
    · subst h; rfl
    · rw [beq_eq_false_iff_ne.mpr h, beq_eq_false_iff_ne.mpr (Ne.symm h)]
theorem ints_all : ∀ {us : List Value} {ns : List Int}, IntsAre us ns → ∀ v ∈ us, ∃ n t, v = .int n t := fun h v hv => IntsAre.all h v hv

theorem eqI_at {us : List Value} {ns : List Int} (k : Int) (t : Tok) (hI : IntsAre us ns) : ∀ y ∈ us, SeqAt.EqAt A.in1 s y (.int k t) (eqI k y) := fun y hy => by
  obtain ⟨n, t', rfl⟩ := ints_all hI y hy
  intro prog w E Q hq
  exact wpAny_eqBool_int hq
/-- membership, asked in either way -/
theorem inS_sound {a b : D} {v u : Value} {K : Bool → Prop} (g : Good c nm vs env ρ σ P s) (h : inS a b σ K) (ha : Rep (nd σ P) s.heap a v) (hb : Rep (nd σ P) s.heap b u) (neg : Bool)
    (hQ : ∀ t tk, K t → Q (.bool (if neg then !t else t)) { s with toks := tk }) : wpAny c.M A (compareOp (if neg then .NotIn else .In) v u) Q E s := by
  cases a with
  | int k =>
    obtain ⟨t, rfl⟩ : ∃ t, v = .int k t := ha
    rcases h with ⟨ns, e, h⟩ | ⟨p, kvs, rfl, hm, h⟩
    · obtain ⟨l, us, rfl, hl, hr⟩ := asL_heap g.st hb e
      have hI := ints_of_repL hr
      have ea : us.any (eqI k) = ns.contains k := by rw [← Array.any_toList]; exact any_eqI hI
      have hall := fun y hy => eqI_at (A := A) (s := s) k t hI y (Array.mem_toList_iff.mpr hy)
      have fin := hQ _ s.toks h
      rw [← ea] at fin
      cases neg with
      | false => exact hl.elim (fun hl => SeqAt.in_listAt (eqI k) hl hall fin) fun hl => SeqAt.in_tupleAt (eqI k) hl hall fin
      | true => exact hl.elim (fun hl => SeqAt.notIn_listAt (eqI k) hl hall fin) fun hl => SeqAt.notIn_tupleAt (eqI k) hl hall fin
    · obtain rfl : u = .ref p := hb
      obtain ⟨us, hl, hd, hr, hs, _⟩ := dictOf_of_mrep (prog := c.prog) (w := c.w) (g.st.rep p _ hm)
      have fin := hQ _ (s.toks + 1) h
      rw [← zip_isSome hr] at fin
      cases neg with
      | false => exact wpAny_in_of (intKind_is c.prog c.w k t) (by simpa using hs) hd.mapOf fin
      | true => exact wpAny_notIn_of (intKind_is c.prog c.w k t) (by simpa using hs) hd.mapOf fin
  | _ => exact (show False from h).elim
/-- equality, asked in either way -/
theorem eqG_sound {a b : D} {v u : Value} {K : Bool → Prop} (hA : A.units + 64 < cLine) (g : Good c nm vs env ρ σ P s) (h : eqG a b σ K) (ha : Rep (nd σ P) s.heap a v) (hb : Rep (nd σ P) s.heap b u) (neg : Bool)
    (hQ : ∀ t, K t → Q (.bool (if neg then !t else t)) s) : wpAny c.M A (compareOp (if neg then .NotEq else .Eq) v u) Q E s := by
  obtain ⟨x, y, e1, e2, s1, s2, h⟩ := h
  obtain ⟨as, ra⟩ := eqP_reads g.st ha e1
  obtain ⟨bs, rb⟩ := eqP_reads g.st hb e2
  cases neg with
  | false => exact eq_dataH ra rb s1 s2 hA (hQ _ h)
  | true => exact ne_dataH ra rb s1 s2 hA (hQ _ h)
theorem eqS_sound {a b : D} {v u : Value} {K : Bool → Prop} (hA : A.units + 64 < cLine) (g : Good c nm vs env ρ σ P s) (h : eqS' a b σ K) (ha : Rep (nd σ P) s.heap a v) (hb : Rep (nd σ P) s.heap b u) (neg : Bool)
    (hQ : ∀ t, K t → Q (.bool (if neg then !t else t)) s) : wpAny c.M A (compareOp (if neg then .NotEq else .Eq) v u) Q E s := by
  cases a with
  | int x =>
    cases b with
    | int y =>
      obtain ⟨t, rfl⟩ : ∃ t, v = .int x t := ha
      obtain ⟨t', rfl⟩ : ∃ t, u = .int y t := hb
      have fin := hQ _ h
      rw [← beq_dec] at fin
      cases neg with
      | false => exact PyProof.Rows.eq_int fin
      | true => exact PyProof.Rows.ne_int fin
    | _ => exact eqG_sound hA g h ha hb neg hQ
  | bool x =>
    cases b with
    | bool y =>
      obtain rfl : v = .bool x := ha
      obtain rfl : u = .bool y := hb
      have fin := hQ _ h
      cases neg with
      | false => exact PyProof.Rows.eq_bool fin
      | true => exact PyProof.Rows.ne_bool fin
    | _ => exact eqG_sound hA g h ha hb neg hQ
  | _ => exact eqG_sound hA g h ha hb neg hQ
theorem isS_sound {a b : D} {v u : Value} {K : Bool → Prop} (h : isS a b K) (ha : Rep (nd σ P) s.heap a v) (hb : Rep (nd σ P) s.heap b u) : ∃ t, u = .none ∧ (v == Value.none) = t ∧ K t := by
  cases b with
  | none =>
    obtain ⟨t, e, h⟩ : ∃ t, isNone a = some t ∧ K t := h
    exact ⟨t, hb, isNone_val ha e, h⟩
  | _ => exact (show False from h).elim

theorem cmpS_sound {op : CmpOp} {a b : D} {v u : Value} (hA : A.units + 64 < cLine) (g : Good c nm vs env ρ σ P s) (h : cmpS op a b σ Φ) (ha : Rep (nd σ P) s.heap a v) (hb : Rep (nd σ P) s.heap b u)
    (hQ : ∀ v d σ' s', Φ d σ' → Step c.W noF σ σ' s s' → StoreOk σ' P s'.heap → Rep (nd σ' P) s'.heap d v → Q v s') : wpAny c.M A (compareOp op v u) Q E s := by
  have fin : ∀ t, Φ (.bool t) σ → Q (.bool t) s := fun t ht => fin_keeps g hQ ht (keeps_refl s) rep_bool
  have fin1 : ∀ t tk, Φ (.bool t) σ → Q (.bool t) { s with toks := tk } := fun t tk ht => fin_keeps g hQ ht (keeps_toks s _) rep_bool
  cases op with
  | Lt =>
    obtain ⟨x, y, t, t', rfl, rfl, h⟩ := intS_elim h ha hb
    exact PyProof.Rows.lt_int (fin _ h)
  | LtE =>
    obtain ⟨x, y, t, t', rfl, rfl, h⟩ := intS_elim h ha hb
    exact PyProof.Rows.le_int (fin _ h)
  | Gt =>
    obtain ⟨x, y, t, t', rfl, rfl, h⟩ := intS_elim h ha hb
    exact PyProof.Rows.gt_int (fin _ h)
  | GtE =>
    obtain ⟨x, y, t, t', rfl, rfl, h⟩ := intS_elim h ha hb
    exact PyProof.Rows.ge_int (fin _ h)
  | Eq => exact eqS_sound (a := a) (b := b) (K := fun t => Φ (.bool t) σ) hA g h ha hb false fun t ht => fin _ ht
  | NotEq => exact eqS_sound (a := a) (b := b) (K := fun t => Φ (.bool (!t)) σ) hA g h ha hb true fun t ht => fin _ ht
  | Is =>
    obtain ⟨t, rfl, e, h⟩ := isS_sound h ha hb
    exact is_none_gen (by rw [e]; exact fin _ h)
  | IsNot =>
    obtain ⟨t, rfl, e, h⟩ := isS_sound h ha hb
    exact isnot_none_gen (by rw [e]; exact fin _ h)
  | In => exact inS_sound (a := a) (b := b) (K := fun t => Φ (.bool t) σ) g h ha hb false fun t tk ht => fin1 _ tk ht
  | NotIn => exact inS_sound (a := a) (b := b) (K := fun t => Φ (.bool (!t)) σ) g h ha hb true fun t tk ht => fin1 _ tk ht

theorem subS_sound {o i : D} {v u : Value} {value slice : Expr} (hs : ∀ x y, subscripted slice false x y = operate [x, y] (getItem x y)) (g : Good c nm vs env ρ σ P s) (h : subS o i σ Φ) (ha : Rep (nd σ P) s.heap o v) (hb : Rep (nd σ P) s.heap i u)
    (hQ : ∀ v d σ' s', Φ d σ' → Step c.W noF σ σ' s s' → StoreOk σ' P s'.heap → Rep (nd σ' P) s'.heap d v → Q v s') : wpAny c.M A (subscriptTail value slice v u) Q E s := by
  unfold subS at h
  split at h
  · rename_i k
    obtain ⟨xs, e, hn, h⟩ := h
    simp only [Rep] at hb; obtain ⟨t, rfl⟩ := hb
    obtain ⟨a, us, rfl, hl, hr⟩ := asL_heap g.st ha e
    have el := hr.length
    simp only [Array.length_toList] at el
    have hsz : us.size ≤ small := by omega
    unfold small at hsz
    rcases h with ⟨h0, d, hd, h⟩ | ⟨rfl, d, hd, h⟩
    · obtain ⟨x, hx, hrx⟩ := hr.get hd
      have hlt : k.toNat < us.size := by
        obtain ⟨hlt, _⟩ := List.getElem?_eq_some_iff.mp hx
        simpa using hlt
      have hx' : us[k.toNat]? = some x := by simpa using hx
      have fin : Q x s := fin_keeps g hQ h (keeps_refl s) hrx
      rcases hl with hl | hl
      · exact tail_any hl.typeIs slot_list_getitem.lookup (wpAny_getItem_list hl h0 (by omega) hx' fin) (hs _ _)
      · refine item_tupleT (l := us.toList) (j := k.toNat) (isTup_of hl) (by omega) (by omega) ?_ (by simpa using hx) fin (hs _ _)
        unfold seqIndex?
        simp only [Array.length_toList]
        rw [if_neg (by omega : ¬ k < 0), if_pos (by simp; omega)]
    · have hne : xs ≠ [] := by intro q; subst q; simp at hd
      have hpos : 0 < xs.length := List.length_pos_iff.mpr hne
      rw [List.getLast?_eq_getElem?] at hd
      obtain ⟨x, hx, hrx⟩ := hr.get hd
      have hx' : us[us.size - 1]? = some x := by rw [← el] at hx; simpa using hx
      have fin : Q x s := fin_keeps g hQ h (keeps_refl s) hrx
      rcases hl with hl | hl
      · refine tail_any hl.typeIs slot_list_getitem.lookup (wpAny_getItem_list_neg hl (by omega) (by omega) (by omega) ?_ fin) (hs _ _)
        rw [show (-1 + (us.size : Int)).toNat = us.size - 1 by omega]; exact hx'
      · refine item_tupleT (l := us.toList) (j := us.size - 1) (isTup_of hl) (by omega) (by omega) ?_ (by simpa using hx') fin (hs _ _)
        unfold seqIndex?
        simp only [Array.length_toList]
        rw [if_pos (by omega : (-1 : Int) < 0), if_pos (by simp; omega)]
        congr 1; omega
  · exact h.elim
end
end Mine
end
section
open PySem PySem.W PyProof.Rows
set_option Elab.async false
set_option maxRecDepth 100000
namespace Mine
theorem asc_unique {l m : List Int} (p : l.Perm m) (h1 : l.Pairwise (· ≤ ·)) (h2 : m.Pairwise (· ≤ ·)) : l = m :=
  List.Perm.eq_of_pairwise (fun a b _ _ h h' => Int.le_antisymm h h') h1 h2 p

section
variable {prog : Program} {w : World} {A : Around} {E : Value → Shared → Prop} {s : Shared}

theorem sorted_any {l : Addr} {vs : List Value} {ns : List Int} {Q : Value → Shared → Prop} (hl : s.heap.IsList l vs.toArray) (hI : IntsAre vs ns) (hz : vs.length ≤ sizeLine)
    (hQ : ∀ D h' out ns', h'.PlainList D out → s.heap.get? D = none → IntsAre out.toList ns' → ns'.Perm ns → ns'.Pairwise (· ≤ ·) → (∀ b o, s.heap.get? b = some o → h'.get? b = some o) → Q (.ref D) { s with heap := h' }) :
    wpAny (model prog w) A (call (.builtin "sorted") [.ref l]) Q E s := by
  refine Calls.call_function_entry kind_sorted plain_sorted entry_sorted (args_sorted1 _) ?_
  unfold Builtin.«sorted»
  refine wpAny_bind (m := checkCount "sorted" 1 1 _) (wpAny_pure ?_)
  refine wpAny_bind (collect_list hl ?_ hz)
  refine wpAny_bind (wpAny_newList ?_ hz)
  have hsz : ((s.heap.push (seqObj "list" #[] 0)).update s.heap.objs.size (Obj.mapSeq (· ++ vs.toArray))).objs.size = s.heap.objs.size + 1 := by
    rw [Heap.size_update, size_push']
  have hoL : (((s.heap.push (seqObj "list" #[] 0)).update s.heap.objs.size (Obj.mapSeq (· ++ vs.toArray))).push (seqObj "list" vs.toArray 0)).get? (s.heap.objs.size + 1) = some (seqObj "list" vs.toArray 0) := by
    rw [← hsz]; exact Heap.get?_push_size _ rfl
  show wpAny _ _ _ _ _ { s with heap := ((s.heap.push (seqObj "list" #[] 0)).update s.heap.objs.size (Obj.mapSeq (· ++ vs.toArray))).push (seqObj "list" vs.toArray 0) }
  rw [hsz]
  refine wpAny_bind (wpAny_holding (wpAny_call_entry slot_list_sort ⟨_, hoL, rfl⟩ entry_list_sort (sort_any hoL hI hz fun out ns' a1 a2 a3 => ⟨_, rfl, ?_⟩) (args_list_sort _)))
  obtain ⟨e, he⟩ := sortedAll_at s.heap vs out
  refine wpAny_pure ⟨_, rfl, hQ _ (sortedAll s.heap vs out) out ns' ⟨e, he⟩ ?_ a1 a2 a3 fun b o => sortedAll_old⟩
  cases e' : s.heap.get? (s.heap.objs.size + 1) with
  | none => rfl
  | some o => exact absurd (Heap.lt_size e') (Nat.not_lt.mpr (Nat.le_succ _))

/-- sorted of what can be walked -/
theorem sorted_src {T : String} {r d : Addr} {n : Nat} {P : Nat → Value → Prop} {OK : Heap → Prop} {ns : List Int} {Q : Value → Shared → Prop} (K : KdlSrc prog w T r d n P OK) (hh : A.handled = none) (hok : OK s.heap) (hn : n ≤ sizeLine)
    (hI : ∀ acc, ItemsOf P acc n → IntsAre acc.toList ns)
    (hQ : ∀ D h' tk out ns', h'.PlainList D out → s.heap.get? D = none → IntsAre out.toList ns' → ns'.Perm ns → ns'.Pairwise (· ≤ ·) → (∀ b o, s.heap.get? b = some o → h'.get? b = some o) → Q (.ref D) { s with heap := h', toks := tk }) :
    wpAny (model prog w) A (call (.builtin "sorted") [.ref r]) Q E s := by
  refine Calls.call_function_entry kind_sorted plain_sorted entry_sorted (args_sorted1 _) ?_
  unfold Builtin.«sorted»
  refine wpAny_bind (m := checkCount "sorted" 1 1 _) (wpAny_pure ?_)
  refine wpAny_bind (kdu_collect (A := A.in1) K hh hok hn fun h' tk acc hk hacc => ?_)
  have hl : acc.toList.length = n := by rw [Array.length_toList]; exact hacc.1
  refine wpAny_bind (wpAny_newList ?_ (by rw [hl]; exact hn))
  have hoL : (h'.push (seqObj "list" acc.toList.toArray 0)).get? h'.objs.size = some (seqObj "list" acc.toList.toArray 0) := Heap.get?_push_size _ rfl
  refine wpAny_bind (wpAny_holding (wpAny_call_entry slot_list_sort ⟨_, hoL, rfl⟩ entry_list_sort (sort_any hoL (hI acc hacc) (by rw [hl]; exact hn) fun out ns' a1 a2 a3 => ⟨_, rfl, ?_⟩) (args_list_sort _)))
  have hD : s.heap.get? h'.objs.size = none := by
    cases e : s.heap.get? h'.objs.size with
    | none => rfl
    | some o => exact absurd (Heap.lt_size (hk _ _ e)) (Nat.lt_irrefl _)
  obtain ⟨e, he⟩ := sortedHeap_at (vs := acc.toList) (out := out) hoL
  refine wpAny_pure ⟨_, rfl, hQ h'.objs.size _ tk out ns' ⟨e, he⟩ hD a1 a2 a3 fun b o e => ?_⟩
  have hb : b < h'.objs.size := Heap.lt_size (hk b o e)
  have := sortedHeap_old (h := h'.push (seqObj "list" acc.toList.toArray 0)) (a := h'.objs.size) (vs := acc.toList) (out := out) (Nat.ne_of_lt hb) (by rw [Heap.size_push]; exact Nat.lt_succ_of_lt hb)
  exact this.trans (Heap.get?_push_of_some _ (hk b o e))

theorem ints_items {us : List Value} : ∀ {ks : List Int} {acc : List Value}, us.length = ks.length → acc.length = ks.length → (∀ (i : Nat) v, acc[i]? = some v → ∃ (k : Int) (x : Value), (ks.zip us)[i]? = some (k, x) ∧ (intKind prog w).is k v = true) → IntsAre acc ks := by
  induction us with
  | nil =>
    intro ks acc h1 h2 _
    have : ks = [] := List.eq_nil_of_length_eq_zero (by simpa using h1.symm)
    subst this
    have : acc = [] := List.eq_nil_of_length_eq_zero (by simpa using h2)
    subst this; exact .nil
  | cons u us ih =>
    intro ks acc h1 h2 h3
    cases ks with
    | nil => simp at h1
    | cons k ks =>
      cases acc with
      | nil => simp at h2
      | cons v acc =>
        obtain ⟨k', x, e, hk⟩ := h3 0 v rfl
        simp at e
        obtain ⟨rfl, rfl⟩ := e
        obtain ⟨t, rfl⟩ := isInt_val (k := k) hk
        refine .cons k t (ih (by simpa using h1) (by simpa using h2) fun i v' e' => ?_)
        have := h3 (i + 1) v' (by simpa using e')
        simpa using this
end

theorem repL_of_ints {N : Addr → Prop} {h : Heap} : ∀ {vs : List Value} {ns : List Int}, IntsAre vs ns → RepL N h (ns.map D.int) vs
  | _, _, .nil => .nil
  | _, _, .cons n t r => .cons (by simp only [Rep]; exact ⟨t, rfl⟩) (repL_of_ints r)

section
variable {c : Cx} {A : Around} {nm : Nat → Str} {vs : List Nat} {env : Env} {ρ : PEnv} {σ : Store} {P : Addr → Prop} {s : Shared} {Q : Value → Shared → Prop} {E : Value → Shared → Prop} {Φ : D → Store → Prop}

theorem mdict_heap (g : Good c nm vs env ρ σ P s) {a : Addr} {kvs : List (Int × D)} (hm : σ a = some (.mdict kvs)) :
    ∃ us ep, us.length = (kvs.map (·.1)).length ∧ s.heap.DictOf (intKind c.prog c.w) a ((kvs.map (·.1)).zip us) ∧ s.heap.DictAt (intKind c.prog c.w) a ((kvs.map (·.1)).zip us) ep ∧ RepL (nd σ P) s.heap (kvs.map (·.2)) us ∧ (a == sysModules) = false ∧ ((kvs.map (·.1)).zip us).length = kvs.length := by
  obtain ⟨us, hl, hd, hr, hs, _, _⟩ := dictOf_of_mrep (prog := c.prog) (w := c.w) (g.st.rep a _ hm)
  obtain ⟨ep, hat⟩ := hd.dictAt
  exact ⟨us, ep, by simpa using hl, hd, hat, hr, by simpa using hs, by simp [hl]⟩

theorem one_elim {N : Addr → Prop} {h' : Heap} {ds : List D} {us : List Value} {K : D → Prop} (h : oneS ds K) (hr : RepL N h' ds us) : ∃ d v, us = [v] ∧ Rep N h' d v ∧ K d :=
  match ds, h, hr with
  | [d], h, ⟨v, _, e, hv, e'⟩ => ⟨d, v, by rw [e, e'], hv, h⟩
theorem intK_elim {N : Addr → Prop} {h' : Heap} {d : D} {v : Value} {K : Int → Prop} (h : intK d K) (hr : Rep N h' d v) : ∃ i t, v = .int i t ∧ K i := by
  cases d with
  | int i => obtain ⟨t, e⟩ : ∃ t, v = .int i t := hr; exact ⟨i, t, e, h⟩
  | _ => exact (show False from h).elim
theorem fresh_keep {s : Shared} {h' : Heap} (hk : ∀ b o, s.heap.get? b = some o → h'.get? b = some o) : s.heap.get? h'.objs.size = none := by
  cases e : s.heap.get? h'.objs.size with
  | none => rfl
  | some o => have := hk _ _ e; rw [get?_size_none] at this; cases this

theorem bi_sorted {m : Bool} {d : D} {v : Value} (g : Good c nm vs env ρ σ P s) (h : ∃ ns ms : List Int, asL σ d = some (ns.map D.int) ∧ isTuple d = false ∧ ns.length ≤ small ∧ ms.Perm ns ∧ ms.Pairwise (· ≤ ·) ∧ mkS m (ms.map D.int) σ Φ) (hv : Rep (nd σ P) s.heap d v)
    (hQ : ∀ v d σ' s', Φ d σ' → Step c.W noF σ σ' s s' → StoreOk σ' P s'.heap → Rep (nd σ' P) s'.heap d v → Q v s') : wpAny c.M A (call (.builtin "sorted") [v]) Q E s := by
  obtain ⟨ns, ms, e, ht, hn, hp, hs, h⟩ := h
  obtain ⟨a, ws, rfl, hl, hw⟩ := asList_heap g.st hv e ht
  have el := hw.length
  simp only [Array.length_toList, List.length_map] at el
  have hl' : s.heap.IsList a ws.toList.toArray := by rw [Array.toArray_toList]; exact hl
  refine sorted_any hl' (ints_of_repL hw) (by rw [Array.length_toList]; have := sizeLine_small; omega) fun D h' out ns' hD hn' hI hp' hs' hk => ?_
  have : ns' = ms := asc_unique (hp'.trans hp.symm) hs' hs
  subst this
  exact fin_list g h hQ ⟨h', s.toks, rfl, hk⟩ hn' (us := out.toList) (by rw [Array.toArray_toList]; exact hD) (repL_of_ints hI)
theorem bi_lenD {d : D} {v : Value} (g : Good c nm vs env ρ σ P s) (h : ∃ a kvs, d = .obj a ∧ σ a = some (.mdict kvs) ∧ kvs.length ≤ small ∧ Φ (.int kvs.length) σ) (hv : Rep (nd σ P) s.heap d v)
    (hQ : ∀ v d σ' s', Φ d σ' → Step c.W noF σ σ' s s' → StoreOk σ' P s'.heap → Rep (nd σ' P) s'.heap d v → Q v s') : wpAny c.M A (call (.builtin "len") [v]) Q E s := by
  obtain ⟨a, kvs, rfl, hm, hn, h⟩ := h
  obtain rfl : v = .ref a := hv
  obtain ⟨us, ep, _, hd, _, _, hs, hz⟩ := mdict_heap g hm
  refine call_len_dict hs hd (by rw [hz]; exact small_63 hn) ?_
  rw [hz]
  exact fin_keeps g hQ h (keeps_toks s _) rep_int
theorem bi_listD {m : Bool} {d : D} {v : Value} (hh : A.handled = none) (g : Good c nm vs env ρ σ P s) (h : ∃ a kvs, d = .obj a ∧ σ a = some (.mdict kvs) ∧ kvs.length ≤ small ∧ mkS m (kvs.map fun x => D.int x.1) σ Φ) (hv : Rep (nd σ P) s.heap d v)
    (hQ : ∀ v d σ' s', Φ d σ' → Step c.W noF σ σ' s s' → StoreOk σ' P s'.heap → Rep (nd σ' P) s'.heap d v → Q v s') : wpAny c.M A (call (.type "list") [v]) Q E s := by
  obtain ⟨a, kvs, rfl, hm, hn, h⟩ := h
  obtain rfl : v = .ref a := hv
  obtain ⟨us, ep, hlen, hd, hat, _, hs, hz⟩ := mdict_heap g hm
  refine kdl_call (kdl_dict hs) hh hat (by rw [hz]; have := sizeLine_small; omega) fun h' tk acc c' hk hD hacc => ?_
  have hI : IntsAre acc.toList (kvs.map (·.1)) := ints_items (prog := c.prog) (w := c.w) hlen (by rw [Array.length_toList, hacc.1, hz]; simp) fun i v e => hacc.2 i v (by simpa using e)
  have e1 : (kvs.map fun x => D.int x.1) = (kvs.map (·.1)).map D.int := by rw [List.map_map]; rfl
  rw [e1] at h
  exact fin_list g h hQ ⟨h', tk, rfl, hk⟩ (get?_size_none _) (us := acc.toList) ⟨c', by rw [Array.toArray_toList]; exact hD⟩ (repL_of_ints hI)
theorem bi_tuple {d : D} {v : Value} (g : Good c nm vs env ρ σ P s) (h : ∃ xs, asL σ d = some xs ∧ xs.length ≤ small ∧ Φ (.tuple xs) σ) (hv : Rep (nd σ P) s.heap d v)
    (hQ : ∀ v d σ' s', Φ d σ' → Step c.W noF σ σ' s s' → StoreOk σ' P s'.heap → Rep (nd σ' P) s'.heap d v → Q v s') : wpAny c.M A (call (.type "tuple") [v]) Q E s := by
  obtain ⟨xs, e, hn, h⟩ := h
  cases ht : isTuple d with
  | false =>
    obtain ⟨a, ws, rfl, hl, hw⟩ := asList_heap g.st hv e ht
    have el := hw.length
    simp only [Array.length_toList] at el
    refine call_tuple_list hl (fun h' hk => ?_) (by have := sizeLine_small; omega)
    exact fin_tuple g h hQ ⟨_, s.toks, rfl, fun b o e => Heap.get?_push_of_some _ (hk b o e)⟩ (fresh_keep hk) (us := ws.toList) ⟨_, Heap.get?_push_size _ rfl, rfl, 0, by simp⟩ hw
  | true =>
    cases d with
    | tuple ys =>
      cases e
      have hv' := hv
      simp only [Rep] at hv'
      obtain ⟨a, us, rfl, _, hT, _⟩ := hv'
      exact call_tuple_same hT (hQ _ _ σ s h (Step.refl _ _ _ _) g.st hv)
    | _ => cases ht
end
end Mine
end
section
open PySem PyProof.Rows
set_option Elab.async false
namespace Mine
section
variable {c : Cx} {A : Around} {nm : Nat → Str} {vs : List Nat} {env : Env} {ρ : PEnv} {σ : Store} {P : Addr → Prop} {s : Shared} {Q : Value → Shared → Prop} {E : Value → Shared → Prop} {Φ : D → Store → Prop}

theorem tyS_sound {ty : TY} {d : D} {v : Value} {t : Bool} (g : Good c nm vs env ρ σ P s) (e : tyS ty d σ = some t) (h : Φ (.bool t) σ) (hr : Rep (nd σ P) s.heap d v)
    (hQ : ∀ v d σ' s', Φ d σ' → Step c.W noF σ σ' s s' → StoreOk σ' P s'.heap → Rep (nd σ' P) s'.heap d v → Q v s') : wpAny c.M A (call (.builtin "isinstance") [v, .type ty.name]) Q E s := by
  have f1 : Q (.bool t) s := fin_keeps g hQ h (keeps_refl s) rep_bool
  have f2 : Q (.bool t) { s with toks := s.toks + 1 } := fin_keeps g hQ h (keeps_toks s _) rep_bool
  cases d with
  | none =>
    obtain rfl : v = .none := hr
    cases ty with
    | int => cases e; exact IsiPair.NoneType_int f2
    | bool => cases e; exact IsiPair.NoneType_bool f2
    | list => cases e; exact IsiPair.NoneType_list f2
    | tuple => cases e; exact IsiPair.NoneType_tuple f2
  | str x =>
    obtain ⟨u, rfl⟩ : ∃ t, v = .str x t := hr
    cases ty with
    | int => cases e; exact IsiPair.str_int f2
    | bool => cases e; exact IsiPair.str_bool f2
    | list => cases e; exact IsiPair.str_list f2
    | tuple => cases e; exact IsiPair.str_tuple f2
  | int i =>
    obtain ⟨u, rfl⟩ : ∃ t, v = .int i t := hr
    cases ty with
    | int => cases e; exact IsiPair.int_int f1
    | bool => cases e; exact IsiPair.int_bool f2
    | list => cases e; exact IsiPair.int_list f2
    | tuple => cases e; exact IsiPair.int_tuple f2
  | bool b =>
    obtain rfl : v = .bool b := hr
    cases ty with
    | int => cases e; exact IsiPair.bool_int f1
    | bool => cases e; exact IsiPair.bool_bool f1
    | list => cases e; exact IsiPair.bool_list f2
    | tuple => cases e; exact IsiPair.bool_tuple f2
  | list xs =>
    obtain ⟨a, us, rfl, _, hl, _⟩ := hr
    cases ty with
    | int => cases e; exact IsiPair.isList_int hl (fun _ _ x => x) f2
    | bool => cases e; exact IsiPair.isList_bool hl (fun _ _ x => x) f2
    | list => cases e; exact IsiPair.isList_list hl (fun _ _ x => x) f1
    | tuple => cases e; exact IsiPair.isList_tuple hl (fun _ _ x => x) f2
  | tuple xs =>
    obtain ⟨a, us, rfl, _, hl, _⟩ := hr
    cases ty with
    | int => cases e; exact IsiPair.isTuple_int hl (fun _ _ x => x) f2
    | bool => cases e; exact IsiPair.isTuple_bool hl (fun _ _ x => x) f2
    | list => cases e; exact IsiPair.isTuple_list hl (fun _ _ x => x) f2
    | tuple => cases e; exact IsiPair.isTuple_tuple hl (fun _ _ x => x) f1
  | obj a =>
    obtain rfl : v = .ref a := hr
    have e : (match σ a with | some (.mlist _) => some ty.isL | _ => Option.none) = some t := e
    cases hm : σ a with
    | none => rw [hm] at e; cases e
    | some mo =>
      rw [hm] at e
      cases mo with
      | mlist xs =>
        obtain ⟨us, hl, _⟩ := g.st.rep a _ hm
        cases ty with
        | int => cases e; exact IsiPair.isList_int hl.isList (fun _ _ x => x) f2
        | bool => cases e; exact IsiPair.isList_bool hl.isList (fun _ _ x => x) f2
        | list => cases e; exact IsiPair.isList_list hl.isList (fun _ _ x => x) f1
        | tuple => cases e; exact IsiPair.isList_tuple hl.isList (fun _ _ x => x) f2
      | _ => cases e

theorem ltS_sound {d : D} {v : Value} {t : Bool} {tp : Addr} (g : Good c nm vs env ρ σ P s) (e : ltS d σ = some t) (h : Φ (.bool t) σ) (hr : Rep (nd σ P) s.heap d v) (ht : s.heap.get? tp = some { cls := .type "tuple", data := .seq #[.type "list", .type "tuple"] })
    (hQ : ∀ v d σ' s', Φ d σ' → Step c.W noF σ σ' s s' → StoreOk σ' P s'.heap → Rep (nd σ' P) s'.heap d v → Q v s') : wpAny c.M A (call (.builtin "isinstance") [v, .ref tp]) Q E s := by
  have f1 : ∀ tk, Q (.bool t) { s with toks := tk } := fun tk => fin_keeps g hQ h (keeps_toks s _) rep_bool
  have fin : ∀ {Tx : String} {vs : List Bool}, AnswersAll (fun s => s.TypeIs v Tx) v [.type "list", .type "tuple"] vs → s.TypeIs v Tx → vs.any id = t → wpAny c.M A (call (.builtin "isinstance") [v, .ref tp]) Q E s := fun ha hx hv => IsiPair.tupleOf ha hx ht fun tk => by rw [hv]; exact f1 tk
  have lst : ∀ (a : Addr) us, s.heap.IsList a us → v = .ref a → t = true → wpAny c.M A (call (.builtin "isinstance") [v, .ref tp]) Q E s := fun a us hl e1 e2 => by
    subst e1; subst e2
    exact fin (.cons (Answers.of_true F.isi_meta_list F.sub_list_list) (.cons (Answers.of_false_list (by decide +kernel) F.isi_meta_tuple F.sub_list_tuple) .nil)) hl.typeIs rfl
  cases d with
  | none =>
    obtain rfl : v = .none := hr
    cases e
    exact fin (.cons (Answers.of_false_none (by decide +kernel) F.isi_meta_list F.sub_NoneType_list) (.cons (Answers.of_false_none (by decide +kernel) F.isi_meta_tuple F.sub_NoneType_tuple) .nil)) rfl rfl
  | str x =>
    obtain ⟨u, rfl⟩ : ∃ t, v = .str x t := hr
    cases e
    exact fin (.cons (Answers.of_false_str (by decide +kernel) F.isi_meta_list F.sub_str_list) (.cons (Answers.of_false_str (by decide +kernel) F.isi_meta_tuple F.sub_str_tuple) .nil)) rfl rfl
  | int i =>
    obtain ⟨u, rfl⟩ : ∃ t, v = .int i t := hr
    cases e
    exact fin (.cons (Answers.of_false_int (by decide +kernel) F.isi_meta_list F.sub_int_list) (.cons (Answers.of_false_int (by decide +kernel) F.isi_meta_tuple F.sub_int_tuple) .nil)) rfl rfl
  | bool b =>
    obtain rfl : v = .bool b := hr
    cases e
    exact fin (.cons (Answers.of_false_bool (by decide +kernel) F.isi_meta_list F.sub_bool_list) (.cons (Answers.of_false_bool (by decide +kernel) F.isi_meta_tuple F.sub_bool_tuple) .nil)) rfl rfl
  | list xs =>
    obtain ⟨a, us, rfl, _, hl, _⟩ := hr
    cases e
    exact lst a us hl rfl rfl
  | tuple xs =>
    obtain ⟨a, us, rfl, _, hl, _⟩ := hr
    cases e
    exact fin (.cons (Answers.of_false_tuple (by decide +kernel) F.isi_meta_list F.sub_tuple_list) (.cons (Answers.of_true F.isi_meta_tuple F.sub_tuple_tuple) .nil)) hl.typeIs rfl
  | obj a =>
    obtain rfl : v = .ref a := hr
    have e : (match σ a with | some (.mlist _) => some true | _ => Option.none) = some t := e
    cases hm : σ a with
    | none => rw [hm] at e; cases e
    | some mo =>
      rw [hm] at e
      cases mo with
      | mlist xs =>
        obtain ⟨us, hl, _⟩ := g.st.rep a _ hm
        cases e
        exact lst a us hl.isList rfl rfl
      | _ => cases e

theorem dom_set_same {a x : Addr} {xs ys : List D} (h : σ a = some (.mlist xs)) : dom (σ.set a (.mlist ys)) x ↔ dom σ x := by
  constructor
  · intro hd
    rcases dom_set hd with q | rfl
    · exact q
    · exact .inl (by rw [h]; exact Option.some_ne_none _)
  · rintro (q | ⟨y, C, fs, q⟩)
    · left
      unfold Store.set
      by_cases e : x = a
      · rw [if_pos e]; exact Option.some_ne_none _
      · rw [if_neg e]; exact q
    · right
      refine ⟨y, C, fs, ?_⟩
      unfold Store.set
      by_cases e : y = a
      · subst e; rw [h] at q; cases q
      · rw [if_neg e]; exact q

/-- a list of the store changes in place -/
theorem upd_mut (g : Good c nm vs env ρ σ P s) {a : Addr} {xs ys : List D} (hm : σ a = some (.mlist xs)) {h' : Heap} {tk : Nat} (hs : Heap.SameBut a s.heap h') {us : Array Value} (hn : h'.PlainList a us) (hr : RepL (nd σ P) s.heap ys us.toList) :
    Step c.W noF σ (σ.set a (.mlist ys)) s { s with heap := h', toks := tk } ∧ StoreOk (σ.set a (.mlist ys)) P h' := by
  have hda : dom σ a := .inl (by rw [hm]; exact Option.some_ne_none _)
  have keep : ∀ b o, b ≠ a → s.heap.get? b = some o → h'.get? b = some o := fun b o hb e => hs.extBut b o hb e
  have st : Stay (nd σ P) (nd (σ.set a (.mlist ys)) P) s.heap h' := fun b o hN ho _ => ⟨keep b o (fun q => hN.1 (q ▸ hda)) ho, fun hd => hN.1 ((dom_set_same hm).mp hd), hN.2⟩
  refine ⟨Step.mk' ⟨h', tk, rfl⟩ (fun b o e hd _ => keep b o (fun q => hd (q ▸ hda)) e) (fun b o e => ?_) (fun b hb => .inl ((dom_set_same hm).mp hb)), ⟨fun b mo e => ?_, fun x C dx fs e => ?_, fun b hb => g.st.free b ((dom_set_same hm).mp hb)⟩⟩
  · by_cases q : b = a
    · subst q; obtain ⟨n, ho⟩ := hn; exact ⟨_, ho⟩
    · exact ⟨o, keep b o q e⟩
  · unfold Store.set at e
    by_cases hb : b = a
    · rw [if_pos hb] at e
      cases e
      subst hb
      exact ⟨us, hn, RepL.stay st _ _ hr⟩
    · rw [if_neg hb] at e
      refine MRep.stay st (fun b' o hb' ho => keep b' o (fun q => ?_) ho) (g.st.rep b mo e)
      subst q
      rcases hb' with q | ⟨C, fs, rfl⟩
      · exact hb q.symm
      · have := (g.st.apart b C _ fs e).1
        rw [hm] at this; cases this
  · unfold Store.set at e ⊢
    by_cases hx : x = a
    · rw [if_pos hx] at e; cases e
    · rw [if_neg hx] at e
      obtain ⟨h1, h2⟩ := g.st.apart x C dx fs e
      refine ⟨?_, fun y C' fs' e' => ?_⟩
      · rw [if_neg (fun q : dx = a => by subst q; rw [hm] at h1; cases h1)]; exact h1
      · by_cases hy : y = a
        · rw [if_pos hy] at e'; cases e'
        · rw [if_neg hy] at e'; exact h2 y C' fs' e'

theorem app_sound {d e : D} {v u : Value} (g : Good c nm vs env ρ σ P s) (h : appS d e σ Φ) (hr : Rep (nd σ P) s.heap d v) (hu : Rep (nd σ P) s.heap e u)
    (hQ : ∀ v d σ' s', Φ d σ' → Step c.W noF σ σ' s s' → StoreOk σ' P s'.heap → Rep (nd σ' P) s'.heap d v → Q v s') : wpAny c.M A (call (.builtin "list.append") [v, u]) Q E s := by
  unfold appS at h
  split at h
  · rename_i a
    obtain ⟨xs, hm, hn, h⟩ := h
    simp only [Rep] at hr
    subst hr
    obtain ⟨us, hl, hw⟩ := g.st.rep a _ hm
    have el := hw.length
    simp only [Array.length_toList] at el
    refine wpAny_list_append_plain hl (fun h' hl' hs => ?_) (by have := sizeLine_small; omega)
    obtain ⟨st, ok⟩ := upd_mut (tk := s.toks) g hm hs hl' (ys := xs ++ [e]) (by
      have := RepL.append hw (RepL.one hu)
      simpa using this)
    exact hQ _ .none _ _ h st ok rep_none
  · exact h.elim

theorem bi_len {d : D} {v : Value} (g : Good c nm vs env ρ σ P s) (h : ∃ xs, asL σ d = some xs ∧ xs.length ≤ small ∧ Φ (.int xs.length) σ) (hv : Rep (nd σ P) s.heap d v)
    (hQ : ∀ v d σ' s', Φ d σ' → Step c.W noF σ σ' s s' → StoreOk σ' P s'.heap → Rep (nd σ' P) s'.heap d v → Q v s') : wpAny c.M A (call (.builtin "len") [v]) Q E s := by
  obtain ⟨xs, e, hn, h⟩ := h
  obtain ⟨a, ws, rfl, hl, hw⟩ := asL_heap g.st hv e
  have el := hw.length
  rw [Array.length_toList] at el
  rw [← el] at hn h
  have fin : Q (.int ws.size (s.toks + 1)) { s with toks := s.toks + 1 + 1 } := fin_keeps g hQ h (keeps_toks s _) rep_int
  exact hl.elim (fun hl => Calls.call_len_list hl (small_63 hn) fin) fun hl => PyProof.Rows.len_tuple hl (small_63 hn) fin
theorem bi_list {m : Bool} {d : D} {v : Value} (g : Good c nm vs env ρ σ P s) (h : ∃ xs, asL σ d = some xs ∧ xs.length ≤ small ∧ mkS m xs σ Φ) (hv : Rep (nd σ P) s.heap d v)
    (hQ : ∀ v d σ' s', Φ d σ' → Step c.W noF σ σ' s s' → StoreOk σ' P s'.heap → Rep (nd σ' P) s'.heap d v → Q v s') : wpAny c.M A (call (.type "list") [v]) Q E s := by
  obtain ⟨xs, e, hn, h⟩ := h
  obtain ⟨a, ws, rfl, hl, hw⟩ := asL_heap g.st hv e
  have el := hw.length
  rw [Array.length_toList] at el
  have hsz : ws.size ≤ sizeLine := by rw [el]; exact Nat.le_trans hn sizeLine_small
  have fin : ∀ h' c', (∀ b o', s.heap.get? b = some o' → h'.get? b = some o') → h'.get? s.heap.objs.size = some { cls := .type "list", dict := none, data := .seq ws c', slots := #[] } → Q (.ref s.heap.objs.size) { s with heap := h' } :=
    fun h' c' hk hD => fin_list g h hQ ⟨h', s.toks, rfl, hk⟩ (get?_size_none _) (us := ws.toList) ⟨c', by rw [Array.toArray_toList]; exact hD⟩ hw
  rcases hl with ⟨o, ho, hc, n, hd⟩ | ⟨o, ho, hc, n, hd⟩
  · exact call_list_seq (hsz := hsz) a (.inl rfl) ho hc hd fin
  · exact call_list_seq (hsz := hsz) a (.inr rfl) ho hc hd fin
theorem biS_sound {b : BI} {m : Bool} {ds : List D} {us : List Value} (hh : A.handled = none) (g : Good c nm vs env ρ σ P s) (h : biS b m ds σ Φ) (hr : RepL (nd σ P) s.heap ds us)
    (hQ : ∀ v d σ' s', Φ d σ' → Step c.W noF σ σ' s s' → StoreOk σ' P s'.heap → Rep (nd σ' P) s'.heap d v → Q v s') : wpAny c.M A (call b.val us) Q E s := by
  cases b with
  | len => obtain ⟨d, v, rfl, hv, h⟩ := one_elim h hr; exact bi_len g h hv hQ
  | list => obtain ⟨d, v, rfl, hv, h⟩ := one_elim h hr; exact bi_list g h hv hQ
  | sorted => obtain ⟨d, v, rfl, hv, h⟩ := one_elim h hr; exact bi_sorted g h hv hQ
  | lenD => obtain ⟨d, v, rfl, hv, h⟩ := one_elim h hr; exact bi_lenD g h hv hQ
  | listD => obtain ⟨d, v, rfl, hv, h⟩ := one_elim h hr; exact bi_listD hh g h hv hQ
  | tupleA => obtain ⟨d, v, rfl, hv, h⟩ := one_elim h hr; exact bi_tuple g h hv hQ
end
end Mine
end
section
open PySem PyProof.Rows
set_option Elab.async false
namespace Mine
theorem adjust_any (lo hi : Option Int) (n : Nat) : Builtin.Slice.sliceAdjust lo hi 1 (n : Int) = (((lo.elim 0 (clipAt n) : Nat) : Int), ((hi.elim n (clipAt n) : Nat) : Int)) := by
  unfold Builtin.Slice.sliceAdjust
  have h1 : ¬ ((1 : Int) < 0) := by omega
  simp only [h1, if_false]
  cases lo <;> cases hi <;> simp only [Option.elim, clipAt_cast, Prod.mk.injEq] <;> (refine ⟨?_, ?_⟩ <;> first | rfl | trivial | (split <;> omega))
theorem places_any (a b : Nat) : Builtin.Slice.slicePlaces (a : Int) (b : Int) 1 = b - a := by
  unfold Builtin.Slice.slicePlaces
  have h1 : (1 : Int) > 0 := by omega
  simp only [h1, if_true, Int.ediv_one]
  split <;> omega
theorem pick_any (xs : Array Value) (a k : Nat) : ((List.range k).filterMap fun (k : Nat) => xs[((a : Int) + (k : Int) * 1).toNat]?) = (xs.toList.drop a).take k := by
  have e : (fun (k : Nat) => xs[((a : Int) + (k : Int) * 1).toNat]?) = fun k => xs[a + k]? := by
    funext k
    have : ((a : Int) + (k : Int) * 1).toNat = a + k := by omega
    rw [this]
  rw [e]
  have := pick_run xs a k
  rw [List.filterMap_map] at this
  exact this
section
variable {prog : Program} {w : World} {A : Around} {E : Value → Shared → Prop} {s : Shared}
theorem part_any {v : Value} {l : Option Int} {Q : Option Int → Shared → Prop} (p : IsPart v l) (h : Q l s) : wpAny (model prog w) A (Builtin.Slice.slicePartIndex v) Q E s := by
  cases p with
  | none => exact slicePart_none h
  | int i t => exact slicePart_int h
theorem applied_any {sl : Addr} {vl vu : Value} {lo hi : Option Int} {n : Nat} {Q : Int × Int × Nat → Shared → Prop} (hs : s.heap.IsSliceOf sl vl vu .none) (pl : IsPart vl lo) (pu : IsPart vu hi)
    (h : Q (((lo.elim 0 (clipAt n) : Nat) : Int), 1, hi.elim n (clipAt n) - lo.elim 0 (clipAt n)) s) : wpAny (model prog w) A (Builtin.Slice.sliceApplied (.ref sl) (pure (n : Int))) Q E s := by
  obtain ⟨os, hos, hcs, hds⟩ := id hs
  unfold Builtin.Slice.sliceApplied Builtin.Slice.sliceFields
  refine wpAny_bind (wpAny_bind (wpAny_field hos hds (x := vl) rfl (wpAny_bind (wpAny_field hos hds (x := vu) rfl (wpAny_bind (wpAny_field hos hds (x := .none) rfl (wpAny_pure ?_)))))))
  refine wpAny_bind (slicePart_none ?_)
  show wpAny _ _ (if ((1 : Int) == 0) = true then _ else _) _ _ s
  rw [if_neg (by decide)]
  refine wpAny_bind (part_any pl (wpAny_bind (part_any pu (wpAny_bind (wpAny_pure ?_)))))
  show wpAny _ _ (match Builtin.Slice.sliceAdjust lo hi 1 (n : Int) with | (lo, hi) => pure (lo, (1 : Int), Builtin.Slice.slicePlaces lo hi 1)) _ _ s
  rw [adjust_any]
  show wpAny _ _ (pure (_, (1 : Int), Builtin.Slice.slicePlaces _ _ 1)) _ _ s
  rw [places_any]
  exact wpAny_pure h
theorem getItem_tuple_any {t sl : Addr} {items : Array Value} {vl vu : Value} {lo hi : Option Int} {Q : Value → Shared → Prop} (ht : IsTup s.heap t items) (hs : s.heap.IsSliceOf sl vl vu .none) (pl : IsPart vl lo) (pu : IsPart vu hi)
    (h : ∀ h' a, (∀ b o, s.heap.get? b = some o → h'.get? b = some o) → (s.heap.get? a = none ∨ a = t) → h'.IsTuple a ((items.toList.drop (lo.elim 0 (clipAt items.size))).take (hi.elim items.size (clipAt items.size) - lo.elim 0 (clipAt items.size))).toArray → Q (.ref a) { s with heap := h' })
    (hsz : items.size ≤ sizeLine := by size_fits) : wpAny (model prog w) A (getItem (.ref t) (.ref sl)) Q E s := by
  have hcut : sizeOk (.seq ((items.toList.drop (lo.elim 0 (clipAt items.size))).take (hi.elim items.size (clipAt items.size) - lo.elim 0 (clipAt items.size))).toArray) := by
    show Array.size _ ≤ sizeLine
    rw [List.size_toArray, List.length_take, List.length_drop, Array.length_toList]
    omega
  obtain ⟨os, hos, hcs, hds⟩ := id hs
  have hTs : s.TypeIs (.ref sl) "slice" := ⟨os, hos, hcs⟩
  unfold getItem
  try with_reducible refine wpAny_holding ?_
  first | refine wpAny_bind (wpAny_pure ?_) | skip
  refine wpAny_bind (wpAny_sequenceKey ht.typeIs (by decide) ?_)
  refine wpAny_bind (wpAny_callSpecial?_slot (name := Str.ofString "__getitem__") ht.typeIs slot_tuple_getitem
    (wpAny_call_entry slot_tuple_getitem ht.typeIs entry_tuple_getitem ?_ (args_tuple_getitem _ _)))
  show wpAny _ _ (Builtin.Tuple.tupleItemsOf (.ref t) >>= _) _ _ s
  refine wpAny_bind (tupleItemsOf_ ht ?_)
  refine wpAny_bind (wpAny_typeOf hTs ?_)
  rw [if_pos (by decide)]
  refine wpAny_bind (applied_any hs pl pu ?_)
  show wpAny _ _ (if (((lo.elim 0 (clipAt items.size) : Nat) : Int) == 0 && (1 : Int) == 1 && (hi.elim items.size (clipAt items.size) - lo.elim 0 (clipAt items.size)) == items.size) = true then _ else _) _ _ s
  have hnew := h (s.heap.push { cls := .type "tuple", data := .seq ((items.toList.drop (lo.elim 0 (clipAt items.size))).take (hi.elim items.size (clipAt items.size) - lo.elim 0 (clipAt items.size))).toArray }) s.heap.objs.size (fun b o e => Heap.get?_push_of_some _ e) (.inl (Heap.get?_none_of_le (Nat.le_refl _))) ⟨_, Heap.get?_push_size _ rfl, rfl, 0, rfl⟩
  split
  · rename_i q
    have q1 : lo.elim 0 (clipAt items.size) = 0 ∧ hi.elim items.size (clipAt items.size) - lo.elim 0 (clipAt items.size) = items.size := by
      simp only [Bool.and_eq_true, beq_iff_eq] at q
      exact ⟨by omega, q.2⟩
    have hsame := h s.heap t (fun _ _ e => e) (.inr rfl) (by rw [q1.2, q1.1, List.drop_zero, List.take_of_length_le (by simp), Array.toArray_toList]; exact ht)
    refine wpAny_bind (m := Builtin.Tuple.tupleIsExact (.ref t)) ?_
    unfold Builtin.Tuple.tupleIsExact
    refine wpAny_bind (wpAny_typeOf ht.typeIs (wpAny_pure ?_))
    rw [if_pos (by decide)]
    exact wpAny_bind (wpAny_rule (wpAny_pure ⟨_, rfl, wpAny_pure hsame⟩))
  · rw [pick_any]
    first
      | exact wpAny_bind (m := Builtin.Tuple.tupleExact _) (wpAny_newObj_type (wpAny_pure ⟨_, rfl, wpAny_pure hnew⟩) hcut)
      | exact wpAny_bind (m := Builtin.Tuple.tupleExact _) (wpAny_newObj_type (wpAny_bind (wpAny_pure (wpAny_pure ⟨_, rfl, wpAny_pure hnew⟩))) hcut)
      | exact wpAny_bind (wpAny_bind (m := Builtin.Tuple.tupleExact _) (wpAny_newObj_type (wpAny_pure (wpAny_pure ⟨_, rfl, wpAny_pure hnew⟩)) hcut))
      | exact wpAny_bind (wpAny_bind (m := Builtin.Tuple.tupleExact _) (wpAny_newObj_type (wpAny_pure ⟨_, rfl, wpAny_pure hnew⟩) hcut))
end
end Mine
end
section
open PySem PyProof.Rows
set_option Elab.async false
namespace Mine

theorem RepL.drop {N : Addr → Prop} {h : Heap} : ∀ {ds : List D} {vs : List Value}, RepL N h ds vs → ∀ n, RepL N h (ds.drop n) (vs.drop n)
  | ds, vs, x, 0 => by simpa using x
  | [], vs, x, n + 1 => by simp only [RepL] at x; subst x; simp [RepL]
  | d :: ds, vs, x, n + 1 => by
    simp only [RepL] at x
    obtain ⟨v, r, rfl, h1, h2⟩ := x
    simpa using RepL.drop h2 n
theorem RepL.take {N : Addr → Prop} {h : Heap} : ∀ {ds : List D} {vs : List Value}, RepL N h ds vs → ∀ n, RepL N h (ds.take n) (vs.take n)
  | ds, vs, x, 0 => by simp [RepL]
  | [], vs, x, n + 1 => by simp only [RepL] at x; subst x; simp [RepL]
  | d :: ds, vs, x, n + 1 => by
    simp only [RepL] at x
    obtain ⟨v, r, rfl, h1, h2⟩ := x
    simpa using RepL.cons h1 (RepL.take h2 n)

section
variable {c : Cx} {A : Around} {nm : Nat → Str} {vs : List Nat} {env : Env} {ρ : PEnv} {σ : Store} {P : Addr → Prop} {s : Shared} {Q : Value → Shared → Prop} {E : Value → Shared → Prop} {Φ : D → Store → Prop}

/-- parts of a slice as values -/
theorem partI_part {o : Option D} {l : Option Int} {v : Value} (e : partI o = some l) (hv : (o = Option.none ∧ v = .none) ∨ ∃ d, o = some d ∧ Rep (nd σ P) s.heap d v) : IsPart v l := by
  rcases hv with ⟨rfl, rfl⟩ | ⟨d, rfl, hr⟩
  · simp only [partI] at e; cases e; exact .none
  · cases d <;> simp only [partI] at e <;> cases e
    simp only [Rep] at hr
    obtain ⟨t, rfl⟩ := hr
    exact .int _ t

theorem slcS_sound {m : Bool} {o : D} {lo hi : Option D} {v l u : Value} {sl : Addr} {value : Expr} {lower upper : Option Expr} {p : Pos} (g : Good c nm vs env ρ σ P s) (h : slcS m o lo hi σ Φ) (ha : Rep (nd σ P) s.heap o v)
    (hl : (lo = Option.none ∧ l = .none) ∨ ∃ d, lo = some d ∧ Rep (nd σ P) s.heap d l) (hu : (hi = Option.none ∧ u = .none) ∨ ∃ d, hi = some d ∧ Rep (nd σ P) s.heap d u) (hsl : s.heap.IsSliceOf sl l u .none)
    (hQ : ∀ v d σ' s', Φ d σ' → Step c.W noF σ σ' s s' → StoreOk σ' P s'.heap → Rep (nd σ' P) s'.heap d v → Q v s') : wpAny c.M A (subscriptTail value (.Slice lower upper Option.none p) v (.ref sl)) Q E s := by
  obtain ⟨xs, x, y, e, e1, e2, hn, h⟩ := h
  cases ht : isTuple o with
  | true =>
    rw [ht] at h
    obtain ⟨a, us, rfl, hN, hT, hr, _⟩ := asTuple_heap ha e ht
    have el := hr.length
    simp only [Array.length_toList] at el
    refine tail_any hT.typeIs slot_tuple_getitem.lookup (getItem_tuple_any hT hsl (partI_part e1 hl) (partI_part e2 hu) (fun h' a' hk hfr hT' => ?_) (by have := sizeLine_small; omega)) (ops := [.ref sl, .ref a]) rfl
    have hr' : RepL (nd σ P) h' (sliceD xs x y) ((us.toList.drop (x.elim 0 (clipAt us.size))).take (y.elim us.size (clipAt us.size) - x.elim 0 (clipAt us.size))) := by
      unfold sliceD
      rw [← el]
      exact RepL.keeps ((hr.drop _).take _) hk
    refine fin_keeps g hQ h ⟨h', s.toks, rfl, hk⟩ ?_
    simp only [Rep]
    exact ⟨a', _, rfl, hfr.elim g.nd_of_none fun q => q ▸ hN, hT', by simpa using hr'⟩
  | false =>
    rw [ht] at h
    obtain ⟨a, us, rfl, hL', hr⟩ := asList_heap g.st ha e ht
    have el := hr.length
    simp only [Array.length_toList] at el
    refine tail_any hL'.typeIs slot_list_getitem.lookup (wpAny_getItem_list_slice hL' hsl (partI_part e1 hl) (partI_part e2 hu) .none (by simp) ?_ (by have := sizeLine_small; omega)) (ops := [.ref sl, .ref a]) rfl
    refine fin_list g h hQ (keeps_push' s _) (get?_size_none _) (us := (us.toList.drop (x.elim 0 (clipAt us.size))).take (y.elim us.size (clipAt us.size) - x.elim 0 (clipAt us.size))) ⟨0, ?_⟩ ?_
    · rw [← slicePick_plain]; exact Heap.get?_push_size _ rfl
    · unfold sliceD
      rw [← el]
      exact (hr.drop _).take _
end

/-! ### iteration -/

/-- an iterator at address I over the data ds; ok: what the iterated thing needs -/
structure Turns (c : Cx) (A : Around) (I : Addr) (ds : List D) (ok : Store → (Addr → Prop) → Heap → Prop) (It : Nat → Heap → Prop) : Prop where
  mv : ∀ k h h', It k h → (∀ o, h.get? I = some o → h'.get? I = some o) → It k h'
  alive : ∀ k h, It k h → ∃ o vs, h.get? I = some o ∧ o.data = .fields vs
  item : ∀ k d (s : Shared) σ P (Q : Option Value → Shared → Prop) (E : Value → Shared → Prop), ds[k]? = some d → It k s.heap → ok σ P s.heap →
    (∀ v h' tk, It (k + 1) h' → Heap.SameBut I s.heap h' → Rep (nd σ P) s.heap d v → Q (some v) { s with heap := h', toks := tk }) → wpAny c.M A (pyNext (.ref I)) Q E s
  done : ∀ (s : Shared) σ P (Q : Option Value → Shared → Prop) (E : Value → Shared → Prop), It ds.length s.heap → ok σ P s.heap →
    (∀ h' tk, Heap.ExtBut I s.heap h' → Q Option.none { s with heap := h', toks := tk }) → wpAny c.M A (pyNext (.ref I)) Q E s
  self : ∀ k (s : Shared) σ P (Q : Value → Shared → Prop) (E : Value → Shared → Prop), It k s.heap → ok σ P s.heap → Q (.ref I) s → wpAny c.M A (pyIter (.ref I)) Q E s

noncomputable def SeqOk (T : String) (ax : Addr) (ds : List D) (σ : Store) (P : Addr → Prop) (h : Heap) : Prop :=
  ∃ us, (if T = "list" then h.IsList ax us else h.IsTuple ax us) ∧ RepL (nd σ P) h ds us.toList

theorem Turns.list {c : Cx} {A : Around} (hh : A.handled = none) (I ax : Addr) (ds : List D) : Turns c A I ds (SeqOk "list" ax ds) (fun k h => h.IsListIter I ax k) where
  mv := fun k h h' x k' => x.at k'
  alive := fun k h x => by
    obtain ⟨o, ho, _, hd⟩ := x
    exact ⟨o, _, ho, hd⟩
  item := fun k d s σ P Q E hd it ok hQ => by
    obtain ⟨us, hl, hr⟩ := ok
    simp only [if_true] at hl
    obtain ⟨x, hx, hrx⟩ := hr.get hd
    exact wpAny_pyNext_list_item it hl (x := x) (by simpa using hx) fun h' hit' hs' => hQ x h' s.toks hit' hs' hrx
  done := fun s σ P Q E it ok hQ => by
    obtain ⟨us, hl, hr⟩ := ok
    simp only [if_true] at hl
    have el := hr.length
    simp only [Array.length_toList] at el
    exact wpAny_pyNext_list_end hh it hl (by rw [← el]; simp) fun h' he => hQ h' s.toks he
  self := fun k s σ P Q E it _ hQ => wpAny_pyIter_listiter it hQ

theorem Turns.tuple {c : Cx} {A : Around} (hh : A.handled = none) (I ax : Addr) (ds : List D) : Turns c A I ds (SeqOk "tuple" ax ds) (fun k h => h.IsTupleIter I ax k) where
  mv := fun k h h' x k' => let ⟨o, ho, r⟩ := x; ⟨o, k' o ho, r⟩
  alive := fun k h x => by
    obtain ⟨o, ho, _, hd⟩ := x
    exact ⟨o, _, ho, hd⟩
  item := fun k d s σ P Q E hd it ok hQ => by
    obtain ⟨us, hl, hr⟩ := ok
    rw [if_neg (by decide)] at hl
    obtain ⟨x, hx, hrx⟩ := hr.get hd
    exact wpAny_pyNext_tuple_item it hl (x := x) (by simpa using hx) fun h' hit' hs' => hQ x h' s.toks hit' hs' hrx
  done := fun s σ P Q E it ok hQ => by
    obtain ⟨us, hl, hr⟩ := ok
    rw [if_neg (by decide)] at hl
    have el := hr.length
    simp only [Array.length_toList] at el
    exact wpAny_pyNext_tuple_end hh it hl (by rw [← el]; simp) fun h' he => hQ h' s.toks he
  self := fun k s σ P Q E it ok hQ => by
    obtain ⟨us, hl, hr⟩ := ok
    rw [if_neg (by decide)] at hl
    refine (Walks.tuple (prog := c.prog) (w := c.w) hh I ax ?_ us).self k s Q E ⟨it, hl⟩ hQ
    intro e
    obtain ⟨o, ho, _, n, hd⟩ := hl
    obtain ⟨o', ho', _, hd'⟩ := it
    rw [e, ho'] at ho; cases ho; rw [hd] at hd'; cases hd'

theorem rangeD_get {n : Int} {k : Nat} {d : D} (h : (rangeD n)[k]? = some d) : d = .int k ∧ (k : Int) < n := by
  unfold rangeD at h
  rw [List.getElem?_map] at h
  cases e : (List.range n.toNat)[k]? with
  | none => rw [e] at h; cases h
  | some j =>
    rw [e] at h
    cases h
    obtain ⟨h1, h2⟩ := List.getElem?_eq_some_iff.mp e
    simp only [List.length_range] at h1
    simp only [List.getElem_range] at h2
    subst h2
    exact ⟨rfl, by omega⟩
theorem rangeD_length (n : Int) : (rangeD n).length = n.toNat := by simp [rangeD]

theorem Turns.range {c : Cx} {A : Around} (hh : A.handled = none) (I : Addr) (n : Int) : Turns c A I (rangeD n) (fun _ _ _ => True) (fun k h => IsRangeIter h I (k : Int) ((n.toNat : Int) - k) 1) where
  mv := fun k h h' x k' => k' _ x
  alive := fun k h x => ⟨_, _, x, rfl⟩
  item := fun k d s σ P Q E hd it _ hQ => by
    obtain ⟨rfl, hk⟩ := rangeD_get hd
    refine wpAny_pyNext_range_item it (by omega) fun h' hit' hs' => hQ _ h' _ ?_ hs' rep_int
    have e1 : ((k + 1 : Nat) : Int) = (k : Int) + 1 := by omega
    have e2 : (n.toNat : Int) - ((k + 1 : Nat) : Int) = (n.toNat : Int) - k - 1 := by omega
    rw [e1]; rw [e1] at e2; rw [e2]; exact hit'
  done := fun s σ P Q E it _ hQ => by
    rw [rangeD_length] at it
    exact wpAny_pyNext_range_end hh it (by omega) fun h' he => hQ h' s.toks he
  self := fun k s σ P Q E it _ hQ => by
    refine (Walks.range (prog := c.prog) (w := c.w) hh I 0 1 n.toNat).self k s Q E ?_ hQ
    show IsRangeIter s.heap I (0 + (k : Nat) * 1) ((n.toNat : Int) - (k : Nat)) 1
    rw [Int.mul_one, Int.zero_add]; exact it
end Mine
end
section
open PySem PySem.W PyProof.Rows
set_option Elab.async false
namespace Mine

/-! ### objects of the store that change in place -/
noncomputable def ext (mo : MObj) (x : Addr) : Prop := ∃ C fs, mo = .inst C x fs
theorem dom_set_gen {σ : Store} {a x : Addr} {mo mo' : MObj} (hm : σ a = some mo) (he : ∀ x, ext mo' x ↔ ext mo x) : dom (σ.set a mo') x ↔ dom σ x := by
  unfold dom Store.set
  constructor
  · rintro (q | ⟨y, C, fs, q⟩)
    · left
      by_cases e : x = a
      · subst e; rw [hm]; exact Option.some_ne_none _
      · rw [if_neg e] at q; exact q
    · right
      by_cases e : y = a
      · rw [if_pos e] at q
        cases q
        obtain ⟨C', fs', e'⟩ := (he x).mp ⟨C, fs, rfl⟩
        exact ⟨a, C', fs', by rw [hm, e']⟩
      · rw [if_neg e] at q; exact ⟨y, C, fs, q⟩
  · rintro (q | ⟨y, C, fs, q⟩)
    · left
      by_cases e : x = a
      · rw [if_pos e]; exact Option.some_ne_none _
      · rw [if_neg e]; exact q
    · right
      by_cases e : y = a
      · subst e
        rw [hm] at q
        cases q
        obtain ⟨C', fs', e'⟩ := (he x).mpr ⟨C, fs, rfl⟩
        exact ⟨y, C', fs', by rw [if_pos rfl, e']⟩
      · exact ⟨y, C, fs, by rw [if_neg e]; exact q⟩

section
variable {c : Cx} {A : Around} {nm : Nat → Str} {vs : List Nat} {env : Env} {ρ : PEnv} {σ : Store} {P : Addr → Prop} {s : Shared} {Q : Value → Shared → Prop} {E : Value → Shared → Prop} {Φ : D → Store → Prop}

theorem upd_gen (g : Good c nm vs env ρ σ P s) {a b : Addr} {mo mo' : MObj} (hm : σ a = some mo) (he : ∀ x, ext mo' x ↔ ext mo x) (hb : b = a ∨ ext mo b) {h' : Heap} {tk : Nat} (hs : Heap.SameBut b s.heap h') (hal : ∃ o, h'.get? b = some o)
    (hr : Stay (nd σ P) (nd (σ.set a mo') P) s.heap h' → MRep (σ.set a mo') P h' a mo') :
    Step c.W noF σ (σ.set a mo') s { s with heap := h', toks := tk } ∧ StoreOk (σ.set a mo') P h' := by
  have hdb : dom σ b := hb.elim (fun e => .inl (by rw [e, hm]; exact Option.some_ne_none _)) (fun ⟨C, fs, e⟩ => .inr ⟨a, C, fs, by rw [hm, e]⟩)
  have hd : ∀ x, dom (σ.set a mo') x ↔ dom σ x := fun x => dom_set_gen hm he
  have keep : ∀ x o, x ≠ b → s.heap.get? x = some o → h'.get? x = some o := fun x o hx e => hs.extBut x o hx e
  have st : Stay (nd σ P) (nd (σ.set a mo') P) s.heap h' := fun x o hN ho _ => ⟨keep x o (fun q => hN.1 (q ▸ hdb)) ho, fun q => hN.1 ((hd x).mp q), hN.2⟩
  refine ⟨Step.mk' ⟨h', tk, rfl⟩ (fun x o e hx _ => keep x o (fun q => hx (q ▸ hdb)) e) (fun x o e => ?_) (fun x hx => .inl ((hd x).mp hx)), ⟨fun x m e => ?_, fun x C dx fs e => ?_, fun x hx => g.st.free x ((hd x).mp hx)⟩⟩
  · by_cases q : x = b
    · rw [q]; exact hal
    · exact ⟨o, keep x o q e⟩
  · unfold Store.set at e
    by_cases hx : x = a
    · rw [if_pos hx] at e
      cases e
      subst hx
      exact hr st
    · rw [if_neg hx] at e
      refine MRep.stay st (fun y o hy ho => keep y o (fun q => ?_) ho) (g.st.rep x m e)
      subst q
      rcases hy with q | ⟨C, fs, rfl⟩
      · rcases hb with q' | ⟨C, fs, e'⟩
        · exact hx (q.symm.trans q')
        · have := (g.st.apart a C y fs (by rw [hm, e'])).1
          rw [q, e] at this; cases this
      · rcases hb with q' | ⟨C', fs', e'⟩
        · have := (g.st.apart x C y fs e).1
          rw [q', hm] at this; cases this
        · exact hx ((g.st.apart a C' y fs' (by rw [hm, e'])).2 x C fs e)
  · unfold Store.set at e ⊢
    have key : ∀ y C' fs', (if y = a then some mo' else σ y) = some (MObj.inst C' dx fs') → ∃ fs'' C'', σ y = some (.inst C'' dx fs'') := fun y C' fs' e' => by
      by_cases hy : y = a
      · rw [if_pos hy] at e'
        cases e'
        obtain ⟨C'', fs'', e''⟩ := (he dx).mp ⟨C', fs', rfl⟩
        exact ⟨fs'', C'', by rw [hy, hm, e'']⟩
      · rw [if_neg hy] at e'; exact ⟨fs', C', e'⟩
    obtain ⟨f1, C1, e1⟩ := key x C fs e
    obtain ⟨h1, h2⟩ := g.st.apart x C1 dx f1 e1
    refine ⟨?_, fun y C' fs' e' => ?_⟩
    · rw [if_neg (fun q : dx = a => by rw [q, hm] at h1; cases h1)]; exact h1
    · obtain ⟨f2, C2, e2⟩ := key y C' fs' e'
      exact h2 y C2 f2 e2

/-! ### instances -/
theorem entS_get {N : Addr → Prop} {h : Heap} {name : Str} {d : D} : ∀ {es : List DictEntry} {fs : List (Str × D)} {us : List Value}, EntS es (fs.map (·.1)) us → RepL N h (fs.map (·.2)) us → getF name fs = some d → ∃ v, getL name es = some (some v) ∧ Rep N h d v
  | [], [], _, _, _, e => by cases e
  | e :: es, [], _, x, _, _ => by simp [EntS] at x
  | [], f :: fs, us, x, _, _ => by cases us <;> simp [EntS] at x
  | e :: es, (k, y) :: fs, us, x, r, q => by
    cases us with
    | nil => simp [EntS] at x
    | cons v us =>
      simp only [List.map_cons, EntS] at x
      obtain ⟨⟨t, hk⟩, hv, x⟩ := x
      simp only [List.map_cons, RepL] at r
      obtain ⟨v', us', e', hr, r⟩ := r
      cases e'
      unfold getF at q
      by_cases hn : k = name
      · rw [if_pos hn] at q
        cases q
        refine ⟨v, ?_, hr⟩
        unfold getL
        rw [List.find?_cons_of_pos (by rw [hk]; simpa [Value.isStr] using hn)]
        simp only [hv]
      · rw [if_neg hn] at q
        obtain ⟨w, h1, h2⟩ := entS_get x r q
        refine ⟨w, ?_, h2⟩
        have hns : e.key.isStr name = false := by rw [hk]; simpa [Value.isStr] using hn
        have hrk : e.refKey = false := by unfold DictEntry.refKey; rw [hk]
        unfold getL at h1 ⊢
        rw [List.find?_cons_of_neg (by rw [hns]; exact Bool.false_ne_true), List.any_cons, hrk, Bool.false_or]
        exact h1
theorem entS_none {name : Str} : ∀ {es : List DictEntry} {fs : List (Str × D)} {us : List Value}, EntS es (fs.map (·.1)) us → getF name fs = Option.none → getL name es = some Option.none
  | [], [], _, _, _ => rfl
  | e :: es, [], _, x, _ => by simp [EntS] at x
  | [], f :: fs, us, x, _ => by cases us <;> simp [EntS] at x
  | e :: es, (k, y) :: fs, us, x, q => by
    cases us with
    | nil => simp [EntS] at x
    | cons v us =>
      simp only [List.map_cons, EntS] at x
      obtain ⟨⟨t, hk⟩, hv, x⟩ := x
      unfold getF at q
      by_cases hn : k = name
      · rw [if_pos hn] at q; cases q
      · rw [if_neg hn] at q
        have h1 := entS_none x q
        have hns : e.key.isStr name = false := by rw [hk]; simpa [Value.isStr] using hn
        have hrk : e.refKey = false := by unfold DictEntry.refKey; rw [hk]
        unfold getL at h1 ⊢
        rw [List.find?_cons_of_neg (by rw [hns]; exact Bool.false_ne_true), List.any_cons, hrk, Bool.false_or]
        exact h1
theorem entS_some {es : List DictEntry} {fs : List (Str × D)} {us : List Value} {name : Str} {N : Addr → Prop} {h : Heap} (x : EntS es (fs.map (·.1)) us) (r : RepL N h (fs.map (·.2)) us) : (getL name es).isSome = true := by
  cases e : getF name fs with
  | none => rw [entS_none x e]; rfl
  | some d => obtain ⟨v, h1, _⟩ := entS_get x r e; rw [h1]; rfl
theorem entS_put {N : Addr → Prop} {h : Heap} {name : Str} {d : D} {v : Value} {hsh : Int} {t : Tok} (hd : Rep N h d v) : ∀ {es : List DictEntry} {fs : List (Str × D)} {us : List Value}, EntS es (fs.map (·.1)) us → RepL N h (fs.map (·.2)) us →
    ∃ us', EntS (putL name hsh (.str name t) v es) ((putF name d fs).map (·.1)) us' ∧ RepL N h ((putF name d fs).map (·.2)) us'
  | [], [], us, x, r => by
    refine ⟨[v], ?_, RepL.one hd⟩
    simp only [putL, putF, List.map_cons, List.map_nil, EntS]
    exact ⟨⟨t, rfl⟩, trivial, trivial⟩
  | e :: es, [], _, x, _ => by simp [EntS] at x
  | [], f :: fs, us, x, _ => by cases us <;> simp [EntS] at x
  | e :: es, (k, y) :: fs, us, x, r => by
    cases us with
    | nil => simp [EntS] at x
    | cons u us =>
      simp only [List.map_cons, EntS] at x
      obtain ⟨⟨tk, hk⟩, hv, x⟩ := x
      simp only [List.map_cons, RepL] at r
      obtain ⟨v', us', e', hr, r⟩ := r
      cases e'
      unfold putF putL
      by_cases hn : k = name
      · rw [if_pos hn, if_pos (by rw [hk]; simpa [Value.isStr] using hn)]
        refine ⟨v :: us, ?_, RepL.cons hd r⟩
        simp only [List.map_cons, EntS]
        exact ⟨⟨tk, hk⟩, trivial, x⟩
      · rw [if_neg hn, if_neg (by rw [hk]; simpa [Value.isStr] using hn)]
        obtain ⟨us', h1, h2⟩ := entS_put hd x r
        refine ⟨u :: us', ?_, RepL.cons hr h2⟩
        simp only [List.map_cons, EntS]
        exact ⟨⟨tk, hk⟩, hv, h1⟩
theorem putL_length (name : Str) (hsh : Int) (key v : Value) : ∀ es : List DictEntry, (putL name hsh key v es).length ≤ es.length + 1
  | [] => Nat.le_refl _
  | e :: r => by
    unfold putL
    split
    · simp
    · simpa using putL_length name hsh key v r
theorem mem_putF {name : Str} {d : D} {y : Str} : ∀ {fs : List (Str × D)}, y ∈ (putF name d fs).map (·.1) → y ∈ fs.map (·.1) ∨ y = name
  | [], h => by simpa [putF] using h
  | (k, x) :: r, h => by
    unfold putF at h
    split at h
    · left; simpa using h
    · simp only [List.map_cons, List.mem_cons] at h ⊢
      rcases h with h | h
      · exact .inl (.inl h)
      · exact (mem_putF h).imp .inr id
theorem nodup_putF {name : Str} {d : D} : ∀ {fs : List (Str × D)}, (fs.map (·.1)).Nodup → ((putF name d fs).map (·.1)).Nodup
  | [], _ => by simp [putF]
  | (k, x) :: r, h => by
    simp only [List.map_cons, List.nodup_cons] at h
    unfold putF
    split
    · simp only [List.map_cons, List.nodup_cons]; exact h
    · rename_i hn
      simp only [List.map_cons, List.nodup_cons]
      exact ⟨fun q => (mem_putF q).elim h.1 hn, nodup_putF h.2⟩

structure AttrOk (K : Frag) (C : Addr) (name : Str) : Prop where
  get : plainGet K C name = true
  has : hasDictIn K C = true
  own : ∃ attr, findIn K (.ref C) name = some attr ∧ noGet K attr = true
structure SetOk (K : Frag) (C : Addr) (name : Str) : Prop where
  set : findIn K (.ref C) "__setattr__" = some (some (.builtin "object.__setattr__"))
  over : plainOver K C = true
  taker : takerIn K C name = some Option.none
  has : hasDictIn K C = true
structure MethOk (K : Frag) (C : Addr) (name : Str) (f : Addr) : Prop where
  get : plainGet K C name = true
  fn : findIn K (.ref C) name = some (some (.ref f))
  isf : isFn K (.ref f) = true
  keep : keepIn K (.ref f) = true
structure NewOk (K : Frag) (C : Addr) (f : Addr) : Prop where
  makes : makesIn K C = true
  init : findIn K (.ref C) "__init__" = some (some (.ref f))
  isf : isFn K (.ref f) = true
  keep : keepIn K (.ref C) = true

theorem kin (g : Good c nm vs env ρ σ P s) : c.K.In s.heap := c.KX.keeps g.base

theorem attr_sound {a C dx : Addr} {fs : List (Str × D)} {name : Str} {d : D} {expr : Bool} (g : Good c nm vs env ρ σ P s) (ha : AttrOk c.K C name) (hm : σ a = some (.inst C dx fs)) (hg : getF name fs = some d) (h : Φ d σ)
    (hQ : ∀ v d σ' s', Φ d σ' → Step c.W noF σ σ' s s' → StoreOk σ' P s'.heap → Rep (nd σ' P) s'.heap d v → Q v s') : wpAny c.M A (getAttr (.ref a) name expr) Q E s := by
  obtain ⟨n, es, us, h1, h2, h3, h4, h5, h6⟩ := g.st.rep a _ hm
  obtain ⟨v, hv, hr⟩ := entS_get h3 h5 hg
  obtain ⟨attr, ho, hn⟩ := ha.own
  have hnb : handedIn v = true := by
    cases d <;> simp only [Rep] at hr
    · subst hr; rfl
    · subst hr; rfl
    · obtain ⟨t, rfl⟩ := hr; rfl
    · obtain ⟨t, rfl⟩ := hr; rfl
    · obtain ⟨b, _, rfl, _⟩ := hr; rfl
    · obtain ⟨b, _, rfl, _⟩ := hr; rfl
    · subst hr; rfl
  refine get_value (kin g) (od := some (dictOf es n)) ⟨h1, rfl, rfl, h2⟩ (plainGet_of ha.get).1 (findObj_own ha.has ho hn hv) hnb ?_
  exact fin_keeps g hQ h (keeps_toks s _) hr

theorem setattr_sound {a C dx : Addr} {fs : List (Str × D)} {name : Str} {d : D} {v : Value} {Q : Unit → Shared → Prop} (g : Good c nm vs env ρ σ P s) (ha : SetOk c.K C name) (hm : σ a = some (.inst C dx fs)) (hl : fs.length ≤ 900) (hv : Rep (nd σ P) s.heap d v)
    (hQ : ∀ s', Step c.W noF σ (σ.set a (.inst C dx (putF name d fs))) s s' → StoreOk (σ.set a (.inst C dx (putF name d fs))) P s'.heap → Q () s') : wpAny c.M A (setAttr (.ref a) name v) Q E s := by
  obtain ⟨n, es, us, h1, h2, h3, h4, h5, h6, h7⟩ := g.st.rep a _ hm
  have X := kin g
  have hlen : es.length = fs.length := by
    have : ∀ {es : List DictEntry} {ks : List Str} {us : List Value}, EntS es ks us → es.length = ks.length := by
      intro es
      induction es with
      | nil => intro ks us x; cases ks <;> cases us <;> simp [EntS] at x ⊢
      | cons e es ih => intro ks us x; cases ks <;> cases us <;> simp [EntS] at x ⊢; exact ih x.2.2
    simpa using this h3
  have I : W.InstAt s.heap a ({ cls := .ref C, dict := some dx, data := .plain } : Obj) C (some (dictOf es n)) := ⟨h1, rfl, rfl, h2⟩
  refine set_plain X I ha.set ?_
  refine osa_open (s := { s with toks := s.toks + 1 }) X I ha.over ha.taker fun b => ?_
  obtain ⟨cd, hc, hd'⟩ := any_some ha.has
  have X1 : c.K.In ({ s with toks := s.toks + 1 } : Shared).heap := X
  refine wpAny_bind (wpAny_pure (wpAny_bind (wpAny_bind (wpAny_loadPart h1 (wpAny_bind ((looks_clsIn X1 hc).here (s := { s with toks := s.toks + 1 }) ?_))))))
  rw [hd']
  refine wpAny_pure (a := some dx) (wpAny_bind (wpAny_pure (wpAny_bind ?_)))
  unfold nsSet
  refine wpAny_bind (wpAny_bind (wpAny_askSetting (wpAny_pure (wpAny_bind (wpAny_mkText (wpAny_bind (wpAny_loadPart h2 ?_)))))))
  dsimp only
  have c1 : aRefKeyMayBeTheName name es.toArray = false := by
    rw [aRefKeyMayBeTheName_at]
    have hs := entS_some (name := name) h3 h5
    unfold getL at hs
    rw [← Array.any_toList, ← Array.any_toList]
    split at hs
    · rename_i en he
      rw [List.any_eq_true.mpr ⟨en, List.mem_of_find?_eq_some he, List.find?_some he⟩]; rfl
    · split at hs
      · cases hs
      · rename_i z; rw [Bool.not_eq_true] at z; rw [z, Bool.and_false]
  rw [c1]
  refine wpAny_updatePart h2 ?_
  have e1 : Obj.putName name (PyData.keyHash c.w.params name) (.str name (s.toks + 1)) v (dictOf es n) = dictOf (putL name (PyData.keyHash c.w.params name) (.str name (s.toks + 1)) v es) (putN name es n) := putName_dict ..
  have h2' : (s.heap.update dx (Obj.putName name (PyData.keyHash c.w.params name) (.str name (s.toks + 1)) v)).get? dx = some (dictOf (putL name (PyData.keyHash c.w.params name) (.str name (s.toks + 1)) v es) (putN name es n)) := by
    have := Heap.get?_update_self (Obj.putName name (PyData.keyHash c.w.params name) (.str name (s.toks + 1)) v) h2 (by rw [e1]; rfl)
    rw [e1] at this; exact this
  have hpl := putL_length name (PyData.keyHash c.w.params name) (.str name (s.toks + 1)) v es
  refine wpAny_bind (wpAny_lookBehind h2' (by exact pastItsLine_dict (by rw [List.size_toArray, sizeLine_eq]; omega)) ?_)
  refine wpAny_pure ?_
  have hsb := Heap.SameBut.update s.heap dx (Obj.putName name (PyData.keyHash c.w.params name) (.str name (s.toks + 1)) v)
  obtain ⟨st, ok⟩ := upd_gen (b := dx) (mo' := .inst C dx (putF name d fs)) (tk := s.toks + 1 + 1) g hm (fun x => ⟨fun ⟨C', fs', e⟩ => by cases e; exact ⟨_, _, rfl⟩, fun ⟨C', fs', e⟩ => by cases e; exact ⟨_, _, rfl⟩⟩) (.inr ⟨C, fs, rfl⟩) hsb ⟨_, h2'⟩ fun sty => by
    obtain ⟨us', q1, q2⟩ := entS_put (t := s.toks + 1) (hsh := PyData.keyHash c.w.params name) hv h3 h5
    exact ⟨_, _, us', hsb.extBut a _ h7.symm h1, h2', q1, by omega, RepL.stay sty _ _ q2, nodup_putF h6, h7⟩
  exact hQ _ st ok

theorem method_sound {a C dx f : Addr} {fs : List (Str × D)} {name : Str} {pl : Sem Bool} {Q : Value × List Value → Shared → Prop} (g : Good c nm vs env ρ σ P s) (ha : MethOk c.K C name f) (hm : σ a = some (.inst C dx fs)) (hn : getF name fs = Option.none)
    (h : Q (.ref f, [.ref a]) s) : wpAny c.M A (getMethod (.ref a) name pl) Q E s := by
  obtain ⟨n, es, us, h1, h2, h3, h4, h5, h6⟩ := g.st.rep a _ hm
  refine method_fn (kin g) (od := some (dictOf es n)) ⟨h1, rfl, rfl, h2⟩ (plainGet_of ha.get).1 (plainGet_of ha.get).2 ha.fn (beq_iff_eq.mp ha.isf) ?_ h
  show (lookIn name (dictOf es n)).map _ = _
  rw [lookIn_dict, entS_none h3 hn]; rfl
end
end Mine
end
section
open PySem PySem.W PyProof.Rows
set_option Elab.async false
set_option maxRecDepth 100000
namespace Mine

theorem ext_dict {kvs kvs' : List (Int × D)} {x : Addr} : ext (.mdict kvs') x ↔ ext (.mdict kvs) x := by
  constructor <;> (rintro ⟨C, fs, e⟩; cases e)
noncomputable def LM.id : LM → String
  | .dpop => "dict.pop"

theorem dom_set_any {σ : Store} {a b : Addr} {mo : MObj} : dom (σ.set a mo) b → dom σ b ∨ b = a ∨ ext mo b := by
  rintro (h | ⟨x, C, fs, h⟩)
  · unfold Store.set at h
    by_cases e : b = a
    · exact .inr (.inl e)
    · rw [if_neg e] at h; exact .inl (.inl h)
  · unfold Store.set at h
    by_cases e : x = a
    · rw [if_pos e] at h; cases h; exact .inr (.inr ⟨C, fs, rfl⟩)
    · rw [if_neg e] at h; exact .inl (.inr ⟨x, C, fs, h⟩)

section
variable {c : Cx} {A : Around} {nm : Nat → Str} {vs : List Nat} {env : Env} {ρ : PEnv} {σ : Store} {P : Addr → Prop} {s : Shared} {Q : Value → Shared → Prop} {E : Value → Shared → Prop} {Φ : D → Store → Prop}

theorem Good.not_dom (g : Good c nm vs env ρ σ P s) {a : Addr} (ha : s.heap.get? a = none) : ¬ dom σ a := fun hd => by obtain ⟨o, ho⟩ := g.st.alive hd; rw [ha] at ho; cases ho
theorem fresh_of_not_dom {σ : Store} {a : Addr} (nda : ¬ dom σ a) : freshIn σ a := ⟨by
    cases e : σ a with
    | none => rfl
    | some m => exact absurd (Or.inl (by rw [e]; exact Option.some_ne_none m)) nda, fun x C fs e => nda (.inr ⟨x, C, fs, e⟩)⟩

/-- a new object of the store -/
theorem alloc_gen (g : Good c nm vs env ρ σ P s) {mo : MObj} {a : Addr} {s' : Shared} (k : Keeps s s') (ha : s.heap.get? a = none) (hx : ∀ x, ext mo x → s.heap.get? x = none ∧ x ≠ a)
    (hr : Stay (nd σ P) (nd (σ.set a mo) P) s.heap s'.heap → MRep (σ.set a mo) P s'.heap a mo) :
    Step c.W noF σ (σ.set a mo) s s' ∧ StoreOk (σ.set a mo) P s'.heap := by
  have kh := keeps_heap k
  have gone : ∀ b, b = a ∨ ext mo b → s.heap.get? b = none := fun b hb => hb.elim (fun e => e ▸ ha) fun e => (hx b e).1
  have st : Stay (nd σ P) (nd (σ.set a mo) P) s.heap s'.heap := fun b o hN ho _ => ⟨kh b o ho, fun hd => (dom_set_any hd).elim hN.1 (fun e => by rw [gone b e] at ho; cases ho), hN.2⟩
  refine ⟨Step.mk' (Step.of_keeps (W := c.W) (F := noF) (σ := σ) k).same (fun b o e _ _ => kh b o e) (fun b o e => ⟨o, kh b o e⟩) (fun b hb => (dom_set_any hb).imp id (gone b)), ⟨fun b m e => ?_, fun x C dx fs e => ?_, fun b hb => ?_⟩⟩
  · unfold Store.set at e
    by_cases hb : b = a
    · rw [if_pos hb] at e
      cases e
      subst hb
      exact hr st
    · rw [if_neg hb] at e
      exact (g.st.rep b m e).stay st fun b' o _ ho => kh b' o ho
  · unfold Store.set at e ⊢
    have nda := g.not_dom ha
    by_cases hxa : x = a
    · rw [if_pos hxa] at e; cases e
      obtain ⟨h1, h2⟩ := hx dx ⟨C, fs, rfl⟩
      have nd2 := fresh_of_not_dom (g.not_dom h1)
      refine ⟨by rw [if_neg h2]; exact nd2.1, fun y C' fs' e' => ?_⟩
      by_cases hy : y = a
      · exact hy.trans hxa.symm
      · rw [if_neg hy] at e'; exact absurd e' (nd2.2 y C' fs')
    · rw [if_neg hxa] at e
      obtain ⟨h1, h2⟩ := g.st.apart x C dx fs e
      have hdx : dom σ dx := .inr ⟨x, C, fs, e⟩
      refine ⟨?_, fun y C' fs' e' => ?_⟩
      · rw [if_neg (fun q : dx = a => nda (q ▸ hdx))]; exact h1
      · by_cases hy : y = a
        · rw [if_pos hy] at e'
          cases e'
          exact absurd hdx (g.not_dom (hx dx ⟨C', fs', rfl⟩).1)
        · rw [if_neg hy] at e'; exact h2 y C' fs' e'
  · rcases dom_set_any hb with h | h
    · exact g.st.free b h
    · intro hp
      obtain ⟨o, ho⟩ := g.prot _ hp
      rw [gone b h] at ho; cases ho

/-! ### dicts -/
theorem dct_sound (g : Good c nm vs env ρ σ P s) {p : Pos} (hbig : sysModules < s.heap.objs.size) (h : ∀ a, freshIn σ a → Φ (.obj a) (σ.set a (.mdict [])))
    (hQ : ∀ v d σ' s', Φ d σ' → Step c.W noF σ σ' s s' → StoreOk σ' P s'.heap → Rep (nd σ' P) s'.heap d v → Q v s') : wpAny c.M A (eval (.Dict [] [] p) env) Q E s := by
  refine wpAny_Dict_empty ?_
  obtain ⟨st, ok⟩ := alloc_gen g (mo := .mdict []) (keeps_push' s ({ cls := .type "dict", data := .dict #[] } : Obj)) (get?_size_none _) (fun x ⟨C, fs, e⟩ => by cases e) fun sty =>
    ⟨0, [], [], Heap.get?_push_size _ rfl, by simp [EntI], RepL.nil, List.nodup_nil, Nat.ne_of_gt hbig⟩
  exact hQ _ (.obj _) _ _ (h _ (fresh_of_not_dom (g.not_dom (get?_size_none _)))) st ok (by simp [Rep])

theorem subd_sound {o i : D} {v u : Value} {value slice : Expr} (hs : ∀ x y, subscripted slice false x y = operate [x, y] (getItem x y)) (g : Good c nm vs env ρ σ P s) (h : subdS o i σ Φ) (ha : Rep (nd σ P) s.heap o v) (hb : Rep (nd σ P) s.heap i u)
    (hQ : ∀ v d σ' s', Φ d σ' → Step c.W noF σ σ' s s' → StoreOk σ' P s'.heap → Rep (nd σ' P) s'.heap d v → Q v s') : wpAny c.M A (subscriptTail value slice v u) Q E s := by
  obtain ⟨a, kvs, k, x, rfl, hm, rfl, hk, h⟩ := h
  simp only [Rep] at ha hb
  subst ha
  obtain ⟨t, rfl⟩ := hb
  obtain ⟨us, ep, hlen, hd, hat, hr, hsm, hz⟩ := mdict_heap g hm
  obtain ⟨w, hw, hrw⟩ := zip_get hr hk
  refine tail_any hd.typeIs slot_dict_getitem.lookup (wpAny_getItem_of (intKind_is c.prog c.w k t) hd.mapOf hw ?_) (hs _ _)
  exact fin_keeps g hQ h (keeps_toks s _) hrw

/-- a dict of the store changes in place -/
theorem upd_dict (g : Good c nm vs env ρ σ P s) {a : Addr} {kvs kvs' : List (Int × D)} {us' : List Value} (hm : σ a = some (.mdict kvs)) {h' : Heap} {tk : Nat} (hs : Heap.SameBut a s.heap h')
    (hd : h'.DictOf (intKind c.prog c.w) a ((kvs'.map (·.1)).zip us')) (hr : RepL (nd σ P) s.heap (kvs'.map (·.2)) us') (ha : (a == sysModules) = false) :
    Step c.W noF σ (σ.set a (.mdict kvs')) s { s with heap := h', toks := tk } ∧ StoreOk (σ.set a (.mdict kvs')) P h' := by
  refine upd_gen (b := a) (mo := .mdict kvs) (mo' := .mdict kvs') g hm (fun x => ext_dict) (.inl rfl) hs ?_ fun sty => ?_
  · obtain ⟨o, _, _, ho, _⟩ := hd; exact ⟨o, ho⟩
  · exact mrep_of_dictOf hd (RepL.stay sty _ _ hr) (by simpa using ha)

/-! ### stores into lists and dicts -/
theorem set_plain_item {l : Addr} {items : Array Value} {k : Int} {t : Tok} {v : Value} {Q : Unit → Shared → Prop} (hl : s.heap.PlainList l items) (h0 : 0 ≤ k) (hfit : k < 2 ^ 63) (hn : k < items.size)
    (hQ : ∀ h', h'.PlainList l (items.setIfInBounds k.toNat v) → Heap.SameBut l s.heap h' → Q () { s with heap := h' }) : wpAny c.M A (setItem (.ref l) (.int k t) v) Q E s := by
  have hL := hl.isList
  obtain ⟨ne, ho⟩ := hl
  unfold setItem
  refine wpAny_holding ?_
  refine wpAny_bind (wpAny_sequenceKey hL.typeIs (by decide) ?_)
  refine wpAny_bind (wpAny_callSpecial?_slot (name := Str.ofString "__setitem__") hL.typeIs slot_list_setitem
    (wpAny_call_entry slot_list_setitem hL.typeIs entry_list_setitem ?_ (args_list_setitem _ _ _)))
  show wpAny _ _ (Builtin.List.listSubscript? (.int k t) >>= _) _ _ s
  refine wpAny_bind (wpAny_listSubscript_int (fitsIndex_of h0 hfit) ?_)
  clear hfit
  obtain ⟨j, rfl⟩ := Int.eq_ofNat_of_zero_le h0
  have hj : j < items.size := by omega
  have hx' : items[j]? = some items[j] := Array.getElem?_eq_getElem hj
  show wpAny _ _ ((seqItemAt l j >>= fun r => pure (r.map (j, ·))) >>= _) _ _ s
  refine wpAny_bind (wpAny_bind (wpAny_seqItemAt ho rfl (wpAny_pure ?_)))
  rw [hx']
  show wpAny _ _ (setSeqItemAt l j v >>= _) _ _ s
  have hfin : (s.heap.update l (Obj.mapSeq (·.setIfInBounds j v))).PlainList l (items.setIfInBounds j v) := ⟨_, get?_update_seq ho _⟩
  refine wpAny_bind (wpAny_setSeqItemAt ho rfl ?_)
  exact wpAny_pure ⟨.none, rfl, wpAny_pure (hQ _ hfin (Heap.SameBut.update ..))⟩

theorem repL_set {N : Addr → Prop} {h : Heap} {d : D} {v : Value} (hd : Rep N h d v) : ∀ {ds : List D} {us : List Value} {i : Nat}, RepL N h ds us → RepL N h (ds.set i d) (us.set i v)
  | [], us, i, x => by simp only [RepL] at x; subst x; simp [RepL]
  | e :: ds, us, 0, x => by
    simp only [RepL] at x
    obtain ⟨u, r, rfl, h1, h2⟩ := x
    exact RepL.cons hd h2
  | e :: ds, us, i + 1, x => by
    simp only [RepL] at x
    obtain ⟨u, r, rfl, h1, h2⟩ := x
    exact RepL.cons h1 (repL_set hd h2)

theorem sto_sound {o i d : D} {v u x : Value} {K : Store → Prop} {Q : Unit → Shared → Prop} (g : Good c nm vs env ρ σ P s) (h : stoS o i d σ K) (ho : Rep (nd σ P) s.heap o v) (hi : Rep (nd σ P) s.heap i u) (hd : Rep (nd σ P) s.heap d x)
    (hQ : ∀ σ' s', K σ' → Step c.W noF σ σ' s s' → StoreOk σ' P s'.heap → Q () s') : wpAny c.M A (setItem v u x) Q E s := by
  unfold stoS at h
  split at h
  · rename_i j
    simp only [Rep] at hi
    obtain ⟨t, rfl⟩ := hi
    rcases h with ⟨a, xs, rfl, hm, h0, h1, hn, h⟩ | ⟨a, kvs, rfl, hm, hn, h⟩
    · simp only [Rep] at ho; subst ho
      obtain ⟨us, hl, hw⟩ := g.st.rep a _ hm
      have el := hw.length
      simp only [Array.length_toList] at el
      have := small_63 hn
      refine set_plain_item hl h0 (by omega) (by omega) fun h' hl' hs' => ?_
      obtain ⟨st, ok⟩ := upd_mut (tk := s.toks) g hm hs' hl' (ys := xs.set j.toNat d) (by
        rw [Array.toList_setIfInBounds]
        exact repL_set hd hw)
      exact hQ _ _ h st ok
    · simp only [Rep] at ho; subst ho
      obtain ⟨us, ep, hlen, hdd, hat, hr, hsm, hz⟩ := mdict_heap g hm
      refine wpAny_setItem_pairs (intKind_is c.prog c.w j t) hdd (fun h' hd' hs' => ?_) (by rw [hz]; have := sizeLine_small; omega)
      obtain ⟨us', q1, q2⟩ := zip_putR (k := j) hd hr
      have hnd : (((kvs.map (·.1)).zip us).map (·.1)).Nodup := by
        obtain ⟨_, _, _, _, _, _, _, _, hn'⟩ := hdd; exact hn'
      rw [stored_putR j x _ hnd, q2] at hd'
      obtain ⟨st, ok⟩ := upd_dict (tk := s.toks + 1) g hm hs' hd' q1 hsm
      exact hQ _ _ h st ok
  · exact h.elim

theorem lm_sound {k : LM} {d : D} {ds : List D} {v : Value} {us : List Value} (g : Good c nm vs env ρ σ P s) (h : lmS k d ds σ Φ) (hd : Rep (nd σ P) s.heap d v) (hr : RepL (nd σ P) s.heap ds us)
    (hQ : ∀ v d σ' s', Φ d σ' → Step c.W noF σ σ' s s' → StoreOk σ' P s'.heap → Rep (nd σ' P) s'.heap d v → Q v s') : wpAny c.M A (call (.builtin k.id) (v :: us)) Q E s := by
  cases k with
  | dpop =>
    obtain ⟨i', v', rfl, hi', h⟩ := one_elim h hr
    obtain ⟨i, t, rfl, h⟩ := intK_elim h hi'
    obtain ⟨a, kvs, e, rfl, hm, he, hn, h⟩ := h
    obtain rfl : v = .ref a := hd
    obtain ⟨ws, ep, hlen, hdd, hat, hr, hsm, hz⟩ := mdict_heap g hm
    obtain ⟨y, hy, hry⟩ := zip_get hr he
    refine call_meetsIn PySem.F.slot_dict_pop hdd.typeIs PySem.F.entry_dict_pop (PySem.F.args_dict_pop_2 _ _) (meets_dict_pop_there (intKind c.prog c.w) a (hkey := intKind_is c.prog c.w i t) (rest := []) (hrest := .inl rfl) (hpart := rfl)) ⟨_, y, hdd, by rw [hz]; have := sizeLine_small; omega, hy, fun h' hd' hs' => ?_⟩
    obtain ⟨us', q1, q2⟩ := zip_del (k := i) hr
    rw [q2] at hd'
    obtain ⟨st, ok⟩ := upd_dict (tk := s.toks + 1) g hm hs' hd' q1 hsm
    exact hQ _ e _ _ h st ok (Rep.stay (st.stay g.wp) _ _ hry)

theorem lm_method {k : LM} {d : D} {v : Value} {pl : Sem Bool} {Q : Value × List Value → Shared → Prop} (g : Good c nm vs env ρ σ P s) (h : lmOk k d σ) (hd : Rep (nd σ P) s.heap d v)
    (hQ : Q (.builtin k.id, [v]) s) : wpAny c.M A (getMethod v (Str.ofString k.name) pl) Q E s := by
  cases k with
  | dpop =>
    obtain ⟨a, kvs, rfl, hm⟩ := h
    simp only [Rep] at hd; subst hd
    obtain ⟨us, hl, hdd, hr, hsm, hnd, o, ho, hno⟩ := dictOf_of_mrep (prog := c.prog) (w := c.w) (g.st.rep a _ hm)
    exact getMethod_builtin hdd.typeIs PySem.F.plainAttrs_dict PySem.F.slot_dict_pop PySem.F.type_dict_pop (fun b e => by cases e; exact ⟨o, ho, hno⟩) hQ

theorem keys_method {a : Addr} {kvs : List (Int × D)} {pl : Sem Bool} {Q : Value × List Value → Shared → Prop} (g : Good c nm vs env ρ σ P s) (hm : σ a = some (.mdict kvs)) (hQ : Q (.builtin "dict.keys", [.ref a]) s) : wpAny c.M A (getMethod (.ref a) (Str.ofString "keys") pl) Q E s := by
  obtain ⟨us, hl, hdd, hr, hsm, hnd, o, ho, hno⟩ := dictOf_of_mrep (prog := c.prog) (w := c.w) (g.st.rep a _ hm)
  exact getMethod_builtin hdd.typeIs PySem.F.plainAttrs_dict PySem.F.slot_dict_keys PySem.F.type_dict_keys (fun b e => by cases e; exact ⟨o, ho, hno⟩) hQ

theorem skeys_sound {m : Bool} {a : Addr} {kvs : List (Int × D)} {ms : List Int} (hh : A.handled = none) (g : Good c nm vs env ρ σ P s) (hm : σ a = some (.mdict kvs)) (hn : kvs.length ≤ small) (hp : ms.Perm (kvs.map (·.1))) (hs : ms.Pairwise (· ≤ ·)) (h : mkS m (ms.map D.int) σ Φ)
    (hQ : ∀ v d σ' s', Φ d σ' → Step c.W noF σ σ' s s' → StoreOk σ' P s'.heap → Rep (nd σ' P) s'.heap d v → Q v s') :
    wpAny c.M A (call (.builtin "dict.keys") [.ref a]) (fun u s' => wpAny c.M A (call (.builtin "sorted") [u]) Q E s') E s := by
  obtain ⟨us, ep, hlen, hd, hat, hr, hsm, hz⟩ := mdict_heap g hm
  refine call_meetsIn PySem.F.slot_dict_keys hd.typeIs PySem.F.entry_dict_keys (PySem.F.args_dict_keys_1 _) (kdl_meets_keys (intKind c.prog c.w) a hsm) ⟨⟨_, hd⟩, ?_⟩
  have k1 : ∀ b o, s.heap.get? b = some o → (s.heap.push ({ cls := .type "dict_keys", data := .fields #[.ref a] } : Obj)).get? b = some o := fun b o e => Heap.get?_push_of_some _ e
  refine sorted_src (s := { s with heap := s.heap.push ({ cls := .type "dict_keys", data := .fields #[.ref a] } : Obj) }) kdl_keys hh ⟨⟨_, Heap.get?_push_size _ rfl, rfl, rfl⟩, hat.at' fun o e => k1 a o e⟩ (by rw [hz]; have := sizeLine_small; omega)
    (fun acc hacc => ints_items (prog := c.prog) (w := c.w) hlen (by rw [Array.length_toList, hacc.1, hz]; simp) fun i v e => hacc.2 i v (by simpa using e)) fun D h' tk out ns' hD hn' hI hp' hs' hk => ?_
  have : ns' = ms := asc_unique (hp'.trans hp.symm) hs' hs
  subst this
  have hsD : s.heap.get? D = none := by
    cases e : s.heap.get? D with
    | none => rfl
    | some o => have := k1 D o e; simp only at hn'; rw [hn'] at this; cases this
  exact fin_list g h hQ ⟨h', tk, rfl, fun b o e => hk b o (k1 b o e)⟩ hsD (us := out.toList) (by rw [Array.toArray_toList]; exact hD) (repL_of_ints hI)
end
end Mine
end
section
open PySem PySem.W PyProof.Rows
set_option Elab.async false
namespace Mine

noncomputable def isFl (h : Heap) (a : Addr) : Bool := match h.get? a with
  | some o => (match o.data with | .fields _ => true | _ => false)
  | none => false
/-- what the ways of an exception keep: all but records that are new against h₀; of the frames all but the slots -/
structure Kp (h₀ : Heap) (l : List Env) (h h' : Heap) : Prop where
  keep : ∀ a o, h.get? a = some o → (∃ o₀, h₀.get? a = some o₀) ∨ isFl h a = false → ¬ WL l a → h'.get? a = some o
  slot : ∀ a o, h.get? a = some o → WL l a → ∃ sl, h'.get? a = some { o with slots := sl }

noncomputable def fra (l : List Env) : List Addr := l.filterMap (·.frame)
theorem mem_fra {l : List Env} {a : Addr} : a ∈ fra l ↔ WL l a := by
  unfold fra WL
  rw [List.mem_filterMap]
/-- the part of h that the ways of an exception leave alone -/
noncomputable def bas (h₀ : Heap) (l : List Env) (h : Heap) : Heap := hideAll h ((List.range h.objs.size).filter fun a => ((h₀.get? a).isNone && isFl h a) || (fra l).contains a)
theorem bas_of {h₀ h : Heap} {l : List Env} {a : Addr} {o : Obj} (e : (bas h₀ l h).get? a = some o) : h.get? a = some o := of_hideAll _ e
theorem bas_get {h₀ h : Heap} {l : List Env} {a : Addr} {o : Obj} (e : h.get? a = some o) (h0 : (∃ o₀, h₀.get? a = some o₀) ∨ isFl h a = false) (hw : ¬ WL l a) : (bas h₀ l h).get? a = some o := by
  refine hideAll_get _ e fun hm => ?_
  have := (List.mem_filter.mp hm).2
  have q : ((h₀.get? a).isNone && isFl h a) = false := by
    rcases h0 with ⟨o₀, e0⟩ | e0
    · rw [e0]; rfl
    · rw [e0, Bool.and_false]
  rw [q, Bool.false_or, List.contains_iff_mem] at this
  exact hw (mem_fra.mp this)
theorem bas_none {h₀ h : Heap} {l : List Env} {a : Addr} (x : (h₀.get? a = none ∧ isFl h a = true) ∨ WL l a) : (bas h₀ l h).get? a = none := by
  cases e : h.get? a with
  | none =>
    cases q : (bas h₀ l h).get? a with
    | none => rfl
    | some o => rw [bas_of q] at e; cases e
  | some o =>
    refine hideAll_none _ (List.mem_filter.mpr ⟨List.mem_range.mpr (Heap.lt_size e), ?_⟩)
    rcases x with ⟨x, y⟩ | x
    · rw [x, y]; rfl
    · simp only [Bool.or_eq_true, List.contains_iff_mem]
      exact .inr (mem_fra.mpr x)
theorem isFl_of {h : Heap} {a : Addr} {o : Obj} {vs : Array Value} (e : h.get? a = some o) (hd : o.data = .fields vs) : isFl h a = true := by unfold isFl; rw [e]; dsimp only; rw [hd]
theorem isFl_not {h : Heap} {a : Addr} {o : Obj} (e : h.get? a = some o) (hd : ∀ vs, o.data ≠ .fields vs) : isFl h a = false := by
  unfold isFl
  rw [e]
  dsimp only
  split
  · rename_i vs q; exact absurd q (hd vs)
  · rfl
theorem bas_frames {h₀ h : Heap} {l : List Env} (x : Frs h l) : ∀ {l' : List Env}, (∀ e ∈ l', e ∈ l) → h.FunFrames (bas h₀ l h) l'
  | [], _ => trivial
  | env :: r, hs => by
    obtain ⟨k, L, o, h1, h2, h3⟩ := x env (hs env List.mem_cons_self)
    exact ⟨k, ⟨L, o, h1, bas_none (.inr ⟨env, hs env List.mem_cons_self, h1⟩), h2, h3⟩, bas_frames x fun e he => hs e (List.mem_cons_of_mem _ he)⟩
theorem kp_of {h₀ h h' : Heap} {l : List Env} (fr : Frs h l) (k : (bas h₀ l h).StaysIn h') (sl : ∀ b o, h.get? b = some o → (∀ vs, o.data ≠ .fields vs) → ∃ sl, h'.get? b = some { o with slots := sl }) : Kp h₀ l h h' :=
  ⟨fun a o e h0 hw => k a o (bas_get e h0 hw), fun a o e hw => by
    obtain ⟨x, hx, hf⟩ := hw
    obtain ⟨_, L, o', h1, h2, h3⟩ := fr x hx
    rw [hf] at h1; cases h1
    rw [e] at h2; cases h2
    exact sl a o e h3⟩
theorem traced_bas {h₀ h : Heap} {l : List Env} {e : Addr} {cls a0 fl : Value} (x : h.TracedAtW h₀ e cls a0 fl) : h.TracedAtW (bas h₀ l h) e cls a0 fl := by
  obtain ⟨oe, vs, T, oT, ts, h1, h2, h3, h4, h5, h6⟩ := x
  exact ⟨oe, vs, T, oT, ts, h1, h2, h3, h4, bas_none (.inl ⟨h5, isFl_of h6.2.1 h6.2.2.1⟩), h6⟩

section
variable {M : Model} {A : Around} {E : Value → Shared → Prop} {s : Shared} {h₀ : Heap} {env : Env} {r : List Env} {L e C : Addr} {Q : Unit → Shared → Prop}

theorem Fly.elder {l : List Env} {h₀ h₁ h : Heap} {e C : Addr} (x : Fly l h₁ e C h) (k : ∀ a o, h₀.get? a = some o → ∃ o', h₁.get? a = some o') : Fly l h₀ e C h := by
  have back : ∀ a, h₁.get? a = Option.none → h₀.get? a = Option.none := fun a ha => by
    cases q : h₀.get? a with
    | none => rfl
    | some o => obtain ⟨o', e'⟩ := k a o q; rw [ha] at e'; cases e'
  refine ⟨back e x.1, x.2.imp (fun ⟨h₂, vs, hm, hl⟩ => ⟨h₂, vs, hm, fun a o e => by obtain ⟨o', e'⟩ := k a o e; exact hl a o' e'⟩) fun ⟨a0, fl, ⟨oe, vs, T, oT, ts, h1, h2, h3, h4, h5, h6⟩, hf⟩ => ⟨a0, fl, ⟨oe, vs, T, oT, ts, h1, h2, h3, h4, back T h5, h6⟩, hf⟩⟩
/-- the exception is noted at the foremost frame -/
noncomputable def Held (l : List Env) (h₀ : Heap) (e C : Addr) (h : Heap) : Prop := h₀.get? e = none ∧ ∃ env r L a0, l = env :: r ∧ env.frame = some L ∧ h.TracedAtW h₀ e (.ref C) a0 (rawInt L)
theorem Held.fly {l : List Env} {h : Heap} (x : Held l h₀ e C h) : Fly l h₀ e C h := by
  obtain ⟨h0, env, r, L, a0, rfl, hf, ht⟩ := x
  exact ⟨h0, .inr ⟨a0, _, ht, .inr ⟨env, r, L, rfl, hf, rfl⟩⟩⟩
theorem traced_back {h h' : Heap} {l : List Env} {cls a0 fl : Value} (x : h'.TracedAtW (bas h₀ l h) e cls a0 fl) (hl : ∀ a o, h₀.get? a = some o → ∃ o', h.get? a = some o') (hw : ∀ T, WL l T → ∃ o, h.get? T = some o ∧ ∀ vs, o.data ≠ .fields vs)
    (hk : ∀ a o, h.get? a = some o → (∀ vs, o.data ≠ .fields vs) → ∃ sl, h'.get? a = some { o with slots := sl }) : h'.TracedAtW h₀ e cls a0 fl := by
  obtain ⟨oe, vs, T, oT, ts, h1, h2, h3, h4, h5, h6, h7, h8, h9⟩ := x
  refine ⟨oe, vs, T, oT, ts, h1, h2, h3, h4, ?_, h6, h7, h8, h9⟩
  cases q : h₀.get? T with
  | none => rfl
  | some o =>
    exfalso
    obtain ⟨o', e'⟩ := hl T o q
    by_cases hT : WL l T
    · obtain ⟨oT', e1, e2⟩ := hw T hT
      obtain ⟨sl, e3⟩ := hk T oT' e1 e2
      rw [h7] at e3; cases e3
      exact e2 ts h8
    · rw [bas_get e' (.inl ⟨o, q⟩) hT] at h5; cases h5
theorem frs_w {h : Heap} {l : List Env} (fr : Frs h l) : ∀ T, WL l T → ∃ o, h.get? T = some o ∧ ∀ vs, o.data ≠ .fields vs := fun T ⟨x, hx, hf⟩ => by
  obtain ⟨_, L, o, h1, h2, h3⟩ := fr x hx
  rw [hf] at h1; cases h1
  exact ⟨o, h2, h3⟩
theorem stays_bas {h : Heap} {l : List Env} : (bas h₀ l h).StaysIn h := fun _ _ e => bas_of e

theorem note_any (hfr : A.frames = some (env :: r)) (hf : env.frame = some L) (fr : Frs s.heap (env :: r)) (hl : ∀ a o, h₀.get? a = some o → ∃ o', s.heap.get? a = some o') (x : Fly (env :: r) h₀ e C s.heap)
    (hQ : ∀ h', Held (env :: r) h₀ e C h' → Kp h₀ (env :: r) s.heap h' → Q () { s with heap := h' }) : wpAny M A (noteFrame (.ref e) env) Q E s := by
  have ff := bas_frames (h₀ := h₀) fr (l' := env :: r) fun _ h => h
  have fin : ∀ h' a0, Heap.NotedW (bas h₀ (env :: r) s.heap) (env :: r) e (.ref C) a0 (rawInt L) s.heap h' → Q () { s with heap := h' } := fun h' a0 ⟨k1, k2, k3, k4⟩ =>
    hQ h' ⟨x.1, env, r, L, a0, rfl, hf, traced_back k3 hl (frs_w fr) k4⟩ (kp_of fr k1 k4)
  have hfe : isFl s.heap e = true := by
    rcases x.2 with ⟨h₁, vs, hm, _⟩ | ⟨a0, fl, ⟨oe, vs, T, oT, ts, h1, h2, h3, _⟩, _⟩
    · obtain ⟨t, h1, h2, h3⟩ := hm.there
      exact isFl_of h1 rfl
    · exact isFl_of h1 h3
  have he := bas_none (l := env :: r) (h := s.heap) (.inl ⟨x.1, hfe⟩)
  rcases x.2 with ⟨h₁, vs, hm, _⟩ | ⟨a0, fl, ht, rfl | ⟨env', r', L', q, hf', rfl⟩⟩
  · obtain ⟨t, h1, h2, h3⟩ := hm.there
    unfold noteFrame
    simp only [hf]
    refine wpAny_bind (wpAny_field h1 rfl (x := .none) rfl ?_)
    rw [if_neg (by decide)]
    exact wpAny_entryW hfr ff hf h1 stays_bas he rfl (by simp) rfl fun h' hN => fin h' _ hN
  · exact wpAny_noteFrame_onW hfr ff hf (traced_bas ht) stays_bas he fun h' hN => fin h' _ hN
  · cases q
    rw [hf] at hf'; cases hf'
    exact wpAny_noteFrame_againW hf ht (hQ s.heap ⟨x.1, env, r, L, a0, rfl, hf, ht⟩ ⟨fun a o e _ _ => e, fun a o e _ => ⟨o.slots, e⟩⟩)

/-- it comes back from an own activation: it is in flight at the frame -/
theorem came_any (hf : env.frame = some L) (fr : Frs s.heap (env :: r)) (x : Held (env :: r) h₀ e C s.heap)
    (hQ : ∀ h', Held (env :: r) h₀ e C h' → Kp h₀ (env :: r) s.heap h' → E (.ref e) { s with heap := h' }) : cameBackBy M A env E (.ref e) s := by
  obtain ⟨h0, env', r', L', a0, q, hf', oe, vs, T, oT, ts, h1, h2, h3, h4, h5, h6, h7, h8, h9⟩ := x
  cases q
  rw [hf] at hf'; cases hf'
  unfold cameBackBy
  refine wpAny_bind (wpAny_field h1 h3 h4 ?_)
  rw [if_neg (by simp)]
  unfold setFlight
  refine wpAny_bind (wpAny_field h1 h3 h4 ?_)
  rw [if_pos (show (Value.ref T != Value.none) = true from by simp), hf]
  refine wpAny_setField h7 h8 (Array.getElem?_eq_some_iff.mp h9).1 ?_
  have other : ∀ b, b ≠ T → (s.heap.update T (Obj.mapFields (·.setIfInBounds 3 (rawInt L)))).get? b = s.heap.get? b := fun b hb => Heap.get?_update_other _ _ (Ne.symm hb)
  refine hQ _ ⟨h0, env, r, L, a0, rfl, hf, oe, vs, T, _, _, (other e (Ne.symm h6)).trans h1, h2, h3, h4, h5, h6, Heap.get?_update_self _ h7 (Obj.isFreed_of_fields (Obj.data_mapFields h8 _)), Obj.data_mapFields h8 _, by simp [(Array.getElem?_eq_some_iff.mp h9).1]⟩ ⟨fun a o e' h0' hw => ?_, fun a o e' hw => ?_⟩
  · refine (other a fun q => ?_).trans e'
    rcases h0' with ⟨o₀, e0⟩ | e0
    · rw [q, h5] at e0; cases e0
    · rw [q, isFl_of h7 h8] at e0; cases e0
  · refine ⟨o.slots, (other a fun q => ?_).trans e'⟩
    subst q
    obtain ⟨o2, e2, e3⟩ := frs_w fr a hw
    rw [h7] at e2; cases e2
    exact e3 ts h8
end
end Mine
end
section
open PySem PyProof.Rows
set_option Elab.async false
namespace Mine

noncomputable def Res.sto : Res → Store
  | .next _ σ => σ
  | .ret _ σ => σ
  | .brk _ σ => σ
  | .cont _ σ => σ

noncomputable def ResOk (c : Cx) (nm : Nat → Str) (vs : List Nat) (env : Env) (P : Addr → Prop) : Res → Flow → Shared → Prop
  | .next ρ σ, f, s => f = .next ∧ Good c nm vs env ρ σ P s
  | .cont ρ σ, f, s => f = .cont ∧ Good c nm vs env ρ σ P s
  | .brk ρ σ, f, s => f = .brk ∧ Good c nm vs env ρ σ P s
  | .ret d σ, f, s => ∃ v, f = .ret v ∧ StoreOk σ P s.heap ∧ Rep (nd σ P) s.heap d v

noncomputable def WPs (c : Cx) (A : Around) (nm : Nat → Str) (vs : List Nat) (env : Env) (ρ : PEnv) (σ : Store) (t : Sem Flow) (Φ : Res → Prop) : Prop :=
  ∀ P s, Good c nm vs env ρ σ P s → ∀ (Q : Flow → Shared → Prop),
    (∀ f s' r, Φ r → Step c.W (FrA env) σ r.sto s s' → ResOk c nm vs env P r f s' → Q f s') → wpAny c.M A t Q c.E s

theorem ns_unique {h : Heap} {a : Addr} {m m' : Str → Option Value} (x : h.Ns a m) (y : h.Ns a m') : m = m' := by
  obtain ⟨o, es, ep, ho, hd, _, hf⟩ := x
  obtain ⟨o', es', ep', ho', hd', _, hf'⟩ := y
  rw [ho] at ho'; cases ho'
  rw [hd] at hd'; cases hd'
  funext n
  rw [← hf, ← hf']

theorem not_still {o : Obj} (h : (∀ items n, o.data ≠ .seq items n) ∧ ∀ fs, o.data ≠ .fields fs) : ¬ still o := fun ⟨_, _, e⟩ => h.1 _ _ e
theorem not_still' {o : Obj} {ws : Array Value} (hd : o.data = .fields ws) : ¬ still o := fun ⟨_, _, e⟩ => by rw [hd] at e; cases e
theorem kp_step {l : List Env} {F : Addr → Prop} {σ σ' : Store} {s s' : Shared} {h'' : Heap} (st : Step (WL l) F σ σ' s s') (k : Kp s.heap l s'.heap h'') : Step (WL l) F σ σ' s { s' with heap := h'' } := by
  refine ⟨?_, fun a o e hd hf hw => k.keep a o (st.keep a o e hd hf hw) (.inl ⟨o, e⟩) hw, fun a o e hw hd hf => ?_, fun a o e => ?_, st.new⟩
  · obtain ⟨h₁, t₁, rfl⟩ := st.same
    exact ⟨h'', t₁, rfl⟩
  · obtain ⟨sl, e'⟩ := st.slot a o e hw hd hf
    obtain ⟨sl', e''⟩ := k.slot a _ e' hw
    exact ⟨sl', e''⟩
  · obtain ⟨o', e'⟩ := st.alive a o e
    by_cases hw : WL l a
    · obtain ⟨sl, e''⟩ := k.slot a o' e' hw
      exact ⟨_, e''⟩
    · exact ⟨o', k.keep a o' e' (.inl ⟨o, e⟩) hw⟩
theorem kp_store {l : List Env} {σ : Store} {P : Addr → Prop} {h₀ h h'' : Heap} (ok : StoreOk σ P h) (k : Kp h₀ l h h'') (hw : ∀ a, WL l a → P a) : StoreOk σ P h'' := by
  have st : Stay (nd σ P) (nd σ P) h h'' := fun a o hN ho ⟨items, n, hd⟩ => ⟨k.keep a o ho (.inr (isFl_not ho fun vs q => by rw [hd] at q; cases q)) (fun q => hN.2 (hw a q)), hN⟩
  refine ⟨fun a mo e => ?_, ok.apart, ok.free⟩
  have hda : dom σ a := .inl (by rw [e]; exact Option.some_ne_none _)
  have x := ok.rep a mo e
  refine x.stay st fun b o hb ho => k.keep b o ho (.inr (isFl_not ho ?_)) (fun q => ?_)
  · intro vs q
    rcases hb with rfl | ⟨C, fs, rfl⟩
    · cases mo with
      | mlist ds => obtain ⟨us, ⟨n, h2⟩, _⟩ := x; rw [ho] at h2; cases h2; cases q
      | inst C dx fs => obtain ⟨n, es, us, h2, _⟩ := x; rw [ho] at h2; cases h2; cases q
      | mdict kvs => obtain ⟨n, es, us, h2, _⟩ := x; rw [ho] at h2; cases h2; cases q
    · obtain ⟨n, es, us, _, h2, _⟩ := x
      rw [ho] at h2; cases h2; cases q
  · rcases hb with rfl | ⟨C, fs, rfl⟩
    · exact ok.free b hda (hw b q)
    · exact ok.free b (.inr ⟨a, C, fs, e⟩) (hw b q)
section
variable {c : Cx} {A : Around} {nm : Nat → Str} {vs : List Nat} {env : Env} {ρ : PEnv} {σ : Store} {P : Addr → Prop} {s : Shared} {E : Value → Shared → Prop}

/-- the stay of plain data where only frame objects change -/
theorem Good.stay_fr (g : Good c nm vs env ρ σ P s) {h' : Heap} {L : Addr} (hL : FrA env L) (k : ∀ b o, b ≠ L → s.heap.get? b = some o → h'.get? b = some o) : Stay (nd σ P) (nd σ P) s.heap h' := fun a o hN ho hd => by
  refine ⟨k a o (fun e => ?_) ho, hN⟩
  obtain ⟨o', ho', hs⟩ := g.fr_alive hL
  rw [← e, ho] at ho'
  cases ho'
  exact not_still hs hd

theorem StoreOk.fr (ok : StoreOk σ P s.heap) {h' : Heap} {L : Addr} (st : Stay (nd σ P) (nd σ P) s.heap h') (hL : ¬ dom σ L) (k : ∀ b o, b ≠ L → s.heap.get? b = some o → h'.get? b = some o) : StoreOk σ P h' := by
  refine ⟨fun a mo e => (ok.rep a mo e).stay st fun b o hb ho => k b o (fun q => hL ?_) ho, ok.apart, ok.free⟩
  subst q
  rcases hb with rfl | ⟨C, fs, rfl⟩
  · exact .inl (by rw [e]; exact Option.some_ne_none _)
  · exact .inr ⟨a, C, fs, e⟩

theorem store_sound {x : Nat} {d : D} {v : Value} {Q : Unit → Shared → Prop} (ok : EnvOk nm vs env) (hx : x ∈ vs) (hff : ∀ a, FrA env a → c.F₀ a) (hcx : ∀ C, c.cur ≠ some (x, C)) (g : Good c nm vs env ρ σ P s) (hr : Rep (nd σ P) s.heap d v)
    (hQ : ∀ s', Step c.W (FrA env) σ σ s s' → Good c nm vs env (ρ.put x d) σ P s' → Q () s') : wpAny c.M A (storeName env (nm x) v) Q E s := by
  -- one object L of the frame changes
  have main : ∀ (L : Addr) (h' : Heap) (tk : Nat), FrA env L → Heap.SameBut L s.heap h' → (∃ m, h'.Ns env.locals m) → (∀ y ca, env.cells.lookup y = some ca → ∃ v, h'.IsCell ca v) →
      (VarIs env h' (nm x) v) → (∀ y u, y ≠ nm x → VarIs env s.heap y u → VarIs env h' y u) → Q () { s with heap := h', toks := tk } := by
    intro L h' tk hL hs hns hcell hv hoth
    have k : ∀ b o, b ≠ L → s.heap.get? b = some o → h'.get? b = some o := fun b o hb e => hs.extBut b o hb e
    have st := g.stay_fr hL k
    have ndL : ¬ dom σ L := fun hd => (g.own L hd).2 hL
    have al : ∀ a o, s.heap.get? a = some o → ∃ o', h'.get? a = some o' := fun a o e => by
      by_cases hb : a = L
      · subst hb
        rcases hL with rfl | ⟨y, hy⟩
        · obtain ⟨m, o', es, ep, ho', _⟩ := hns; exact ⟨o', ho'⟩
        · obtain ⟨w, o', ho', _⟩ := hcell y a hy; exact ⟨o', ho'⟩
      · exact ⟨o, k a o hb e⟩
    have stp : Step c.W (FrA env) σ σ s { s with heap := h', toks := tk } := Step.mk' ⟨h', tk, rfl⟩ (fun a o e hd hf => k a o (fun q => hf (q ▸ hL)) e) al (fun a h => .inl h)
    refine hQ _ stp ⟨fun a o e => ?_, hns, hcell, fun i e hi => ?_, g.st.fr st ndL k, g.own, g.fresh, fun a ha => ?_, g.wp, g.wb, ?_, g.p0, g.since.trans (stp.weak hff), fun i C hc => ?_⟩
    · exact k a o (fun q => by rw [q, g.fresh L hL] at e; cases e) (g.base a o e)
    · rcases PEnv.at_put ρ x i d e hi with ⟨rfl, rfl⟩ | ⟨hne, hi'⟩
      · exact ⟨hx, v, hv, Rep.stay st _ _ hr⟩
      · obtain ⟨hm, u, hu, hru⟩ := g.var i e hi'
        exact ⟨hm, u, hoth _ u (fun q => hne (ok.inj i hm x hx q)) hu, Rep.stay st _ _ hru⟩
    · obtain ⟨o, ho⟩ := g.prot a ha
      exact al a o ho
    · intro e he
      obtain ⟨q1, L', o, q2, q3, q4⟩ := g.fr e he
      by_cases hb : L' = L
      · subst hb
        rcases hL with rfl | ⟨y, hy⟩
        · obtain ⟨m, o', es, ep, ho', hd', _⟩ := hns
          exact ⟨q1, _, o', q2, ho', fun vs q => by rw [hd'] at q; cases q⟩
        · obtain ⟨w, o', ho', hd'⟩ := hcell y _ hy
          exact ⟨q1, _, o', q2, ho', fun vs q => by rw [hd'] at q; cases q⟩
      · exact ⟨q1, L', o, q2, k L' o hb q3, q4⟩
    · obtain ⟨h0, a, o, h1, h2, h3, h4, fs, h5⟩ := g.cur i C hc
      refine ⟨h0, a, o, hoth _ _ (fun q => hcx C (by rw [← ok.inj i h0 x hx q]; exact hc)) h1, h2, k a o (fun q => ?_) h3, h4, fs, h5⟩
      obtain ⟨o', ho', hs⟩ := g.fr_alive hL
      rw [← q, h3] at ho'; cases ho'
      exact hs.2 fs h5
  obtain ⟨m, hn⟩ := g.ns
  rcases ok.kinds x hx with hl | ⟨hl, ca, hca⟩
  · refine wpAny_storeName_local hl hn (fun h' hn' hs' => ?_) (by rw [ok.kind]; rfl)
    refine main env.locals h' _ (.inl rfl) hs' ⟨_, hn'⟩ (fun y cb hy => ?_) (.inl ⟨hl, _, hn', by simp⟩) (fun y u hy hu => ?_)
    · obtain ⟨w, o, ho, hd⟩ := g.cell y cb hy
      refine ⟨w, o, hs'.extBut cb o (fun q => ?_) ho, hd⟩
      obtain ⟨o', es, ep, ho', hd', _⟩ := hn
      rw [q, ho'] at ho; cases ho; rw [hd'] at hd; cases hd
    · rcases hu with ⟨a, m', hn2, hm⟩ | ⟨a, cb, hc, o, ho, hd⟩
      · have := ns_unique hn hn2
        subst this
        exact .inl ⟨a, _, hn', by rw [if_neg hy]; exact hm⟩
      · refine .inr ⟨a, cb, hc, o, hs'.extBut cb o (fun q => ?_) ho, hd⟩
        obtain ⟨o', es, ep, ho', hd', _⟩ := hn
        rw [q, ho'] at ho; cases ho; rw [hd'] at hd; cases hd
  · obtain ⟨v₀, hv₀⟩ := g.cell (nm x) ca hca
    refine wpAny_storeName_cell ok.kind hl hca hv₀ fun h' hc' hs' => ?_
    have hne : env.locals ≠ ca := fun q => by
      obtain ⟨o', es, ep, ho', hd', _⟩ := hn
      obtain ⟨o, ho, hd⟩ := hv₀
      rw [← q, ho'] at ho; cases ho; rw [hd'] at hd; cases hd
    refine main ca h' _ (.inr ⟨_, hca⟩) hs' ⟨m, hn.sameBut hs' hne⟩ (fun y cb hy => ?_) (.inr ⟨hl, ca, hca, hc'⟩) (fun y u hy hu => ?_)
    · by_cases hcb : cb = ca
      · subst hcb; exact ⟨_, hc'⟩
      · obtain ⟨w, o, ho, hd⟩ := g.cell y cb hy
        exact ⟨w, o, hs'.extBut cb o hcb ho, hd⟩
    · rcases hu with ⟨a, m', hn2, hm⟩ | ⟨a, cb, hc, o, ho, hd⟩
      · exact .inl ⟨a, m', hn2.sameBut hs' hne, hm⟩
      · refine .inr ⟨a, cb, hc, o, hs'.extBut cb o (fun q => ?_) ho, hd⟩
        subst q
        exact hy (name_of_addr ok.apart (mem_of_lookup hc) (mem_of_lookup hca))

theorem Step.but {W F : Addr → Prop} {σ σ' : Store} {s₀ s : Shared} (x : Step W F σ σ' s₀ s) {I : Addr} (hI : s₀.heap.get? I = none) {h' : Heap} {tk : Nat} (k : ∀ b o, b ≠ I → s.heap.get? b = some o → h'.get? b = some o) :
    Step W F σ σ' s₀ { s with heap := h', toks := tk } := by
  have ne : ∀ a o, s₀.heap.get? a = some o → a ≠ I := fun a o e q => by subst q; rw [hI] at e; cases e
  refine ⟨?_, fun a o e hd hf hw => k a o (ne a o e) (x.keep a o e hd hf hw), fun a o e hw hd hf => ?_, fun a o e => ?_, x.new⟩
  · obtain ⟨h₁, t₁, rfl⟩ := x.same
    exact ⟨h', tk, rfl⟩
  · obtain ⟨sl, e'⟩ := x.slot a o e hw hd hf
    exact ⟨sl, k a _ (ne a o e) e'⟩
  · obtain ⟨o', e'⟩ := x.alive a o e
    exact ⟨o', k a o' (ne a o e) e'⟩

/-- an object I that is none of ours changes -/
theorem Good.but (g : Good c nm vs env ρ σ P s) {I : Addr} {oI : Obj} {ws : Array Value} (hI : s.heap.get? I = some oI) (hd : oI.data = .fields ws) (hcu : c.cur = none) (hb : c.b.get? I = none) (h0 : c.s₀.heap.get? I = none) (hP : ¬ P I) {h' : Heap} {tk : Nat}
    (k : ∀ b o, b ≠ I → s.heap.get? b = some o → h'.get? b = some o) : Good c nm vs env ρ σ P { s with heap := h', toks := tk } := by
  have nf : ∀ a, FrA env a → a ≠ I := fun a ha e => by
    subst e
    rcases ha with rfl | ⟨y, hy⟩
    · obtain ⟨m, o', es, ep, ho', hd', _⟩ := g.ns; rw [hI] at ho'; cases ho'; rw [hd] at hd'; cases hd'
    · obtain ⟨w, o', ho', hd'⟩ := g.cell y _ hy; rw [hI] at ho'; cases ho'; rw [hd] at hd'; cases hd'
  have nI : ¬ dom σ I := fun hx => by
    rcases hx with h1 | ⟨y, C, fs, h1⟩
    · cases e : σ I with
      | none => exact h1 e
      | some mo =>
        have := g.st.rep I mo e
        cases mo with
        | mlist ds => obtain ⟨us, ⟨n, ho⟩, _⟩ := this; rw [hI] at ho; cases ho; cases hd
        | inst C dx fs => obtain ⟨n, es, vs, h2, _⟩ := this; rw [hI] at h2; cases h2; cases hd
        | mdict kvs => obtain ⟨n, es, vs, h2, _⟩ := this; rw [hI] at h2; cases h2; cases hd
    · obtain ⟨n, es, _, _, h2, _⟩ := g.st.rep y _ h1
      rw [hI] at h2; cases h2; cases hd
  have st : Stay (nd σ P) (nd σ P) s.heap h' := fun a o hN ho hd' => ⟨k a o (fun e => by subst e; rw [hI] at ho; cases ho; exact not_still' hd hd') ho, hN⟩
  refine ⟨fun a o e => k a o (fun q => by subst q; rw [hb] at e; cases e) (g.base a o e), ?_, fun x ca hx => ?_, fun i d e => ?_, g.st.fr st nI k, g.own, g.fresh, fun a ha => ?_, g.wp, g.wb, fun e he => ?_, g.p0, g.since.but h0 k, fun i C hc => by rw [hcu] at hc; cases hc⟩
  · obtain ⟨m, hn⟩ := g.ns
    exact ⟨m, hn.at' fun o e => k _ o (nf _ (.inl rfl)) e⟩
  · obtain ⟨v, o, ho, hd'⟩ := g.cell x ca hx
    exact ⟨v, o, k ca o (nf _ (.inr ⟨x, hx⟩)) ho, hd'⟩
  · obtain ⟨hi, v, hv, hr⟩ := g.var i d e
    exact ⟨hi, v, hv.keep' (fun a o ha e => k a o (nf a ha) e), Rep.stay st _ _ hr⟩
  · obtain ⟨o, ho⟩ := g.prot a ha
    exact ⟨o, k a o (fun q => hP (q ▸ ha)) ho⟩
  · obtain ⟨q1, L', o, q2, q3, q4⟩ := g.fr e he
    exact ⟨q1, L', o, q2, k L' o (fun q => hP (q ▸ g.wp L' ⟨e, he, q2⟩)) q3, q4⟩

theorem Good.of_step_fr {ρ' : PEnv} {σ' : Store} {s' : Shared} (g : Good c nm vs env ρ σ P s) (st : Step c.W (FrA env) σ σ' s s') (g' : Good c nm vs env ρ' σ' P s') : Stay (nd σ P) (nd σ' P) s.heap s'.heap := fun a o hN ho hd => by
  refine ⟨st.keep a o ho hN.1 (fun hf => ?_) (fun hw => hN.2 (g.wp a hw)), fun h => (st.new a h).elim hN.1 (fun e => by rw [e] at ho; cases ho), hN.2⟩
  obtain ⟨o', ho', hs⟩ := g.fr_alive hf
  rw [ho] at ho'; cases ho'
  exact not_still hs hd
end

theorem kp_frs {h₀ h h' : Heap} {l : List Env} (fr : Frs h l) (k : Kp h₀ l h h') : Frs h' l := fun e he => by
  obtain ⟨q1, L, o, q2, q3, q4⟩ := fr e he
  obtain ⟨sl, q5⟩ := k.slot L o q3 ⟨e, he, q2⟩
  exact ⟨q1, L, _, q2, q5, q4⟩
/-- the foremost frame is env's -/
noncomputable def Front (l : List Env) (env : Env) : Prop := ∃ r L, l = env :: r ∧ env.frame = some L
/-- the place within an own activation of the frame (a loop): what comes is noted first -/
noncomputable def Cx.loop (c : Cx) (A : Around) (env : Env) (R : Value → Shared → Prop) (hfr : A.frames = some c.l) (hf : Front c.l env)
    (hR : ∀ e C σ' s', c.X C σ' → Step (WL c.l) c.F₀ c.σ₀ σ' c.s₀ s' → StoreOk σ' c.P₀ s'.heap → Frs s'.heap c.l → Held c.l c.s₀.heap e C s'.heap → R (.ref e) s') (hw : ∀ a, WL c.l a → c.P₀ a) : Cx :=
  { c with
    E := notedBy c.M A env R
    exc := fun e C σ' s' hX st ok fr fl => by
      obtain ⟨r, L, hl, hL⟩ := hf
      have hfr' : A.frames = some (env :: r) := by rw [hfr, hl]
      refine note_any (h₀ := c.s₀.heap) (C := C) hfr' hL (by rw [← hl]; exact fr) st.alive (by rw [← hl]; exact fl) fun h' held kp => ?_
      rw [← hl] at held kp
      exact hR e C σ' _ hX (kp_step st kp) (kp_store ok kp hw) (kp_frs fr kp) held }
theorem Good.toLoop {c : Cx} {nm vs env ρ σ P s A R hfr hf hR hw} (g : Good c nm vs env ρ σ P s) : Good (c.loop A env R hfr hf hR hw) nm vs env ρ σ P s := ⟨g.base, g.ns, g.cell, g.var, g.st, g.own, g.fresh, g.prot, g.wp, g.wb, g.fr, g.p0, g.since, g.cur⟩
theorem Good.ofLoop {c : Cx} {nm vs env ρ σ P s A R hfr hf hR hw} (g : Good (c.loop A env R hfr hf hR hw) nm vs env ρ σ P s) : Good c nm vs env ρ σ P s := ⟨g.base, g.ns, g.cell, g.var, g.st, g.own, g.fresh, g.prot, g.wp, g.wb, g.fr, g.p0, g.since, g.cur⟩
theorem ResOk.ofLoop {c : Cx} {nm vs env P r f s A R hfr hf hR hw} (x : ResOk (c.loop A env R hfr hf hR hw) nm vs env P r f s) : ResOk c nm vs env P r f s := by
  cases r with
  | ret d σ => exact x
  | _ => exact ⟨x.1, x.2.ofLoop⟩

section
variable {c : Cx} {A : Around} {nm : Nat → Str} {vs : List Nat} {env : Env} {P : Addr → Prop}

theorem for_sound {I : Addr} {ds : List D} {ok : Store → (Addr → Prop) → Heap → Prop} {It : Nat → Heap → Prop} (T : Turns c A I ds ok It) {d : D} {v : Value} {keep : Store → Prop}
    (hok : ∀ (σ : Store) (s : Shared), Rep (nd σ P) s.heap d v → StoreOk σ P s.heap → keep σ → ok σ P s.heap) (eo : EnvOk nm vs env) {x : Nat} {xp : Pos} (hx : x ∈ vs) {body : List Stmt}
    {step : D → PEnv → Store → (Res → Prop) → Prop} (hff : ∀ a, FrA env a → c.F₀ a) (hcu : c.cur = none) {R : Result → Shared → Prop} {hfr : A.frames = some c.l} {hfe : Front c.l env} {hRE : _} {hw0 : ∀ a, WL c.l a → c.P₀ a} (hstep : ∀ e ρ σ Ψ, step e ρ σ Ψ → WPs (c.loop A env (fun e s' => R (.error e) s') hfr hfe hRE hw0) A nm vs env (ρ.put x e) σ (execs body env) Ψ)
    {ρ₀ : PEnv} {σ₀ : Store} {s₀ s : Shared} (g₀ : Good c nm vs env ρ₀ σ₀ P s₀) (hI : s₀.heap.get? I = none) (st : Step c.W (FrA env) σ₀ σ₀ s₀ s) (g : Good c nm vs env ρ₀ σ₀ P s) (it : It 0 s.heap) (hd : Rep (nd σ₀ P) s.heap d v) (hk : keep σ₀)
    {Φ : Res → Prop} (hfor : forS step keep ds ρ₀ σ₀ Φ) (hR : ∀ f s' r, Φ r → Step c.W (FrA env) σ₀ r.sto s₀ s' → ResOk c nm vs env P r f s' → R (.ok f) s') :
    codeAny c.M A (.forLoop (.Name (nm x) xp) (.ref I) body [] env) R s := by
  have hbI : c.b.get? I = none := by
    cases e : c.b.get? I with
    | none => rfl
    | some o => rw [g₀.base I o e] at hI; cases hI
  have h0I : c.s₀.heap.get? I = none := by
    cases e : c.s₀.heap.get? I with
    | none => rfl
    | some o => obtain ⟨o', e'⟩ := g₀.since.alive I o e; rw [hI] at e'; cases e'
  have hPI : ¬ P I := fun hp => by obtain ⟨o, ho⟩ := g₀.prot I hp; rw [hI] at ho; cases ho
  refine codeAny_forLoop
    (fun n s' => ∃ k ρ σ, k ≤ ds.length ∧ n = ds.length - k ∧ It k s'.heap ∧ Good c nm vs env ρ σ P s' ∧ Step c.W (FrA env) σ₀ σ s₀ s' ∧ Rep (nd σ P) s'.heap d v ∧ keep σ ∧ forS step keep (ds.drop k) ρ σ Φ)
    ?_ ds.length ⟨0, ρ₀, σ₀, Nat.zero_le _, rfl, it, g, st, hd, hk, hfor⟩
  rintro n s' ⟨k, ρ, σ, hkl, rfl, it', g', st', hd', hk', hf'⟩
  obtain ⟨oI, ws, hoI, hdI⟩ := T.alive k _ it'
  by_cases hlt : k < ds.length
  · have hget : ds[k]? = some ds[k] := List.getElem?_eq_getElem hlt
    have hdrop : ds.drop k = ds[k] :: ds.drop (k + 1) := (List.drop_eq_getElem_cons hlt)
    rw [hdrop] at hf'
    simp only [forS] at hf'
    refine T.item k _ s' σ P _ _ hget it' (hok σ s' hd' g'.st hk') fun u h₁ tk₁ it₁ hs₁ hr₁ => ?_
    have kb : ∀ b o, b ≠ I → s'.heap.get? b = some o → h₁.get? b = some o := fun b o hb e => hs₁.extBut b o hb e
    have g₁ : Good c nm vs env ρ σ P { s' with heap := h₁, toks := tk₁ } := g'.but hoI hdI hcu hbI h0I hPI kb
    have st₁ : Step c.W (FrA env) σ₀ σ s₀ { s' with heap := h₁, toks := tk₁ } := st'.but hI kb
    have stay₁ : Stay (nd σ P) (nd σ P) s'.heap h₁ := fun a o hN ho hd2 => ⟨kb a o (fun e => by subst e; rw [hoI] at ho; cases ho; exact not_still' hdI hd2) ho, hN⟩
    refine wpAny_assign_Name (store_sound eo hx hff (fun C q => by rw [hcu] at q; cases q) g₁ (Rep.stay stay₁ _ _ hr₁) fun s₂ st₂ g₂ => ?_)
    have stay₂ := g₁.of_step_fr st₂ g₂
    have it₂ : It (k + 1) s₂.heap := T.mv _ _ _ it₁ fun o e => by
      obtain ⟨oI', ws', hoI', hdI'⟩ := T.alive (k + 1) _ it₁
      refine st₂.keep I o e (fun hdm => ?_) (fun hf => ?_) (fun hw => hPI (g₀.wp I hw))
      · obtain ⟨o2, ho2⟩ := g₁.st.alive hdm
        rcases hdm with h1 | ⟨y, C, fs, h1⟩
        · cases e2 : σ I with
          | none => exact h1 e2
          | some mo =>
            have := g₁.st.rep I mo e2
            cases mo with
            | mlist ds => obtain ⟨us, ⟨n3, ho3⟩, _⟩ := this; rw [hoI'] at ho3; cases ho3; cases hdI'
            | inst C dx fs => obtain ⟨n3, es, vs, h2, _⟩ := this; rw [hoI'] at h2; cases h2; cases hdI'
            | mdict kvs => obtain ⟨n3, es, vs, h2, _⟩ := this; rw [hoI'] at h2; cases h2; cases hdI'
        · obtain ⟨n3, es, _, _, h2, _⟩ := g₁.st.rep y _ h1
          rw [hoI'] at h2; cases h2; cases hdI'
      · rcases hf with rfl | ⟨y, hy⟩
        · obtain ⟨m, o', es, ep, ho', hd', _⟩ := g₁.ns; rw [hoI'] at ho'; cases ho'; rw [hdI'] at hd'; cases hd'
        · obtain ⟨w, o', ho', hd'⟩ := g₁.cell y _ hy; rw [hoI'] at ho'; cases ho'; rw [hdI'] at hd'; cases hd'
    refine hstep _ _ _ _ hf' P s₂ g₂.toLoop _ fun f s₃ r hr st₃ ro => ?_
    replace ro := ro.ofLoop
    have st03 : Step c.W (FrA env) σ₀ r.sto s₀ s₃ := (st₁.trans st₂).trans st₃
    have it₃ : It (k + 1) s₃.heap := T.mv _ _ _ it₂ fun o e => by
      obtain ⟨oI', ws', hoI', hdI'⟩ := T.alive (k + 1) _ it₂
      refine st₃.keep I o e (fun hdm => ?_) (fun hf => ?_) (fun hw => hPI (g₀.wp I hw))
      · rcases hdm with h1 | ⟨y, C, fs, h1⟩
        · cases e2 : σ I with
          | none => exact h1 e2
          | some mo =>
            have := g₂.st.rep I mo e2
            cases mo with
            | mlist ds => obtain ⟨us, ⟨n3, ho3⟩, _⟩ := this; rw [hoI'] at ho3; cases ho3; cases hdI'
            | inst C dx fs => obtain ⟨n3, es, vs, h2, _⟩ := this; rw [hoI'] at h2; cases h2; cases hdI'
            | mdict kvs => obtain ⟨n3, es, vs, h2, _⟩ := this; rw [hoI'] at h2; cases h2; cases hdI'
        · obtain ⟨n3, es, _, _, h2, _⟩ := g₂.st.rep y _ h1
          rw [hoI'] at h2; cases h2; cases hdI'
      · rcases hf with rfl | ⟨y, hy⟩
        · obtain ⟨m, o', es, ep, ho', hd', _⟩ := g₂.ns; rw [hoI'] at ho'; cases ho'; rw [hdI'] at hd'; cases hd'
        · obtain ⟨w, o', ho', hd'⟩ := g₂.cell y _ hy; rw [hoI'] at ho'; cases ho'; rw [hdI'] at hd'; cases hd'
    have hd₂ : Rep (nd σ P) s₂.heap d v := Rep.stay stay₂ _ _ (Rep.stay stay₁ _ _ hd')
    cases r with
    | next ρ' σ' =>
      obtain ⟨rfl, g₃⟩ := ro
      exact ⟨ds.length - (k + 1), by omega, k + 1, ρ', σ', hlt, rfl, it₃, g₃, st03, Rep.stay (g₂.of_step_fr st₃ g₃) _ _ hd₂, hr.1, hr.2⟩
    | cont ρ' σ' =>
      obtain ⟨rfl, g₃⟩ := ro
      exact ⟨ds.length - (k + 1), by omega, k + 1, ρ', σ', hlt, rfl, it₃, g₃, st03, Rep.stay (g₂.of_step_fr st₃ g₃) _ _ hd₂, hr.1, hr.2⟩
    | brk ρ' σ' =>
      obtain ⟨rfl, g₃⟩ := ro
      exact hR .next s₃ (.next ρ' σ') hr st03 ⟨rfl, g₃⟩
    | ret d' σ' =>
      obtain ⟨u', rfl, h1, h2⟩ := ro
      exact hR (.ret u') s₃ (.ret d' σ') hr st03 ⟨u', rfl, h1, h2⟩
  · have hke : k = ds.length := by omega
    subst hke
    rw [List.drop_length] at hf'
    simp only [forS] at hf'
    refine T.done s' σ P _ _ it' (hok σ s' hd' g'.st hk') fun h₁ tk₁ he₁ => wpAny_execs_nil ?_
    have kb : ∀ b o, b ≠ I → s'.heap.get? b = some o → h₁.get? b = some o := fun b o hb e => he₁ b o hb e
    exact hR .next _ (.next ρ σ) hf' (st'.but hI kb) ⟨rfl, g'.but hoI hdI hcu hbI h0I hPI kb⟩
end
end Mine
end
section
open PySem PyProof.Rows
set_option Elab.async false
namespace Mine

section
variable {c : Cx} {A : Around} {nm : Nat → Str} {vs : List Nat} {env : Env} {ρ : PEnv} {σ : Store} {P : Addr → Prop} {s : Shared} {E : Value → Shared → Prop}

/-- one object I changes that is no top object, no frame object, no store object, and no plain data may lie there -/
theorem Good.change (g : Good c nm vs env ρ σ P s) {I : Addr} (hcu : c.cur = none) (h0 : c.s₀.heap.get? I = none) (hW : ¬ c.W I) (hb : c.b.get? I = none) (hf : ¬ FrA env I) (hdm : ¬ dom σ I) (hN : ∀ o items n, nd σ P I → s.heap.get? I = some o → o.data ≠ .seq items n) {h' : Heap} {tk : Nat}
    (hal : P I → ∃ o, h'.get? I = some o) (k : ∀ b o, b ≠ I → s.heap.get? b = some o → h'.get? b = some o) :
    Good c nm vs env ρ σ P { s with heap := h', toks := tk } ∧ Stay (nd σ P) (nd σ P) s.heap h' := by
  have st : Stay (nd σ P) (nd σ P) s.heap h' := fun a o hn ho ⟨items, n, hd'⟩ => ⟨k a o (fun e => by subst e; exact hN o items n hn ho hd') ho, hn⟩
  refine ⟨⟨fun a o e => k a o (fun q => by subst q; rw [hb] at e; cases e) (g.base a o e), ?_, fun x ca hx => ?_, fun i d e => ?_, g.st.fr st hdm k, g.own, g.fresh, fun a ha => ?_, g.wp, g.wb, fun e he => ?_, g.p0, g.since.but h0 k, fun i C hc => by rw [hcu] at hc; cases hc⟩, st⟩
  · obtain ⟨m, hn⟩ := g.ns
    exact ⟨m, hn.at' fun o e => k _ o (fun q => hf (.inl q.symm)) e⟩
  · obtain ⟨v, o, ho, hd'⟩ := g.cell x ca hx
    exact ⟨v, o, k ca o (fun q => hf (.inr ⟨x, by rw [← q]; exact hx⟩)) ho, hd'⟩
  · obtain ⟨hi, v, hv, hr⟩ := g.var i d e
    exact ⟨hi, v, hv.keep' (fun a o ha e => k a o (fun q => hf (q ▸ ha)) e), Rep.stay st _ _ hr⟩
  · by_cases h : a = I
    · subst h; exact hal ha
    · obtain ⟨o, ho⟩ := g.prot a ha
      exact ⟨o, k a o h ho⟩
  · obtain ⟨q1, L', o, q2, q3, q4⟩ := g.fr e he
    exact ⟨q1, L', o, q2, k L' o (fun q => hW (q ▸ ⟨e, he, q2⟩)) q3, q4⟩

theorem not_dom_of_fields (ok : StoreOk σ P s.heap) {I : Addr} {oI : Obj} {ws : Array Value} (hI : s.heap.get? I = some oI) (hd : oI.data = .fields ws) : ¬ dom σ I := fun hx => by
  rcases hx with h1 | ⟨y, C, fs, h1⟩
  · cases e : σ I with
    | none => exact h1 e
    | some mo =>
      have := ok.rep I mo e
      cases mo with
      | mlist ds => obtain ⟨us, ⟨n, ho⟩, _⟩ := this; rw [hI] at ho; cases ho; cases hd
      | inst C dx fs => obtain ⟨n, es, vs, h2, _⟩ := this; rw [hI] at h2; cases h2; cases hd
      | mdict kvs => obtain ⟨n, es, vs, h2, _⟩ := this; rw [hI] at h2; cases h2; cases hd
  · obtain ⟨n, es, _, _, h2, _⟩ := ok.rep y _ h1
    rw [hI] at h2; cases h2; cases hd

theorem StoreOk.weak {P' : Addr → Prop} {h : Heap} (ok : StoreOk σ P' h) (hp : ∀ a, P a → P' a) : StoreOk σ P h :=
  ⟨fun a mo e => MRep.stay (fun b o hN ho _ => ⟨ho, hN.1, fun q => hN.2 (hp b q)⟩) (fun _ _ _ ho => ho) (ok.rep a mo e), ok.apart, fun a ha q => ok.free a ha (hp a q)⟩

/-- a protected list becomes a store object -/
theorem adopt {h : Heap} {P' : Addr → Prop} {a : Addr} {ds : List D} {us : Array Value} (ok : StoreOk σ P' h) (hp : ∀ b, P' b ↔ P b ∨ b = a) (hPa : ¬ P a) (hn : h.PlainList a us) (hr : RepL (nd σ P') h ds us.toList) :
    freshIn σ a ∧ StoreOk (σ.set a (.mlist ds)) P h := by
  have nda : ¬ dom σ a := fun hd => ok.free a hd ((hp a).mpr (.inr rfl))
  have hf : freshIn σ a := ⟨by
    cases e : σ a with
    | none => rfl
    | some m => exact absurd (Or.inl (by rw [e]; exact Option.some_ne_none m)) nda, fun x C fs e => nda (.inr ⟨x, C, fs, e⟩)⟩
  have st : Stay (nd σ P') (nd (σ.set a (.mlist ds)) P) h h := fun b o hN ho _ => ⟨ho, fun hd => (dom_set hd).elim hN.1 (fun e => hN.2 ((hp b).mpr (.inr e))), fun q => hN.2 ((hp b).mpr (.inl q))⟩
  refine ⟨hf, ⟨fun b mo e => ?_, fun x C dx fs e => ?_, fun b hb => ?_⟩⟩
  · unfold Store.set at e
    by_cases hb : b = a
    · rw [if_pos hb] at e
      cases e
      subst hb
      exact ⟨us, hn, RepL.stay st _ _ hr⟩
    · rw [if_neg hb] at e
      exact MRep.stay st (fun b' o _ ho => ho) (ok.rep b mo e)
  · unfold Store.set at e ⊢
    by_cases hx : x = a
    · rw [if_pos hx] at e; cases e
    · rw [if_neg hx] at e
      obtain ⟨h1, h2⟩ := ok.apart x C dx fs e
      refine ⟨?_, fun y C' fs' e' => ?_⟩
      · rw [if_neg (fun q : dx = a => hf.2 x C fs (q ▸ e))]; exact h1
      · by_cases hy : y = a
        · rw [if_pos hy] at e'; cases e'
        · rw [if_neg hy] at e'; exact h2 y C' fs' e'
  · rcases dom_set hb with h | h
    · exact fun q => ok.free b h ((hp b).mpr (.inl q))
    · subst h; exact hPa

/-! ### the block of a comprehension -/
noncomputable def clGo (env : Env) : List (Str × NameKind) → List (Str × Addr) → List (Str × Addr)
  | [], acc => acc
  | (n, k) :: r, acc => if k == .free then clGo env r ((n, (env.cells.lookup n).getD 0) :: acc) else clGo env r acc
noncomputable def clOf (env : Env) (sc : Scope) : List (Str × Addr) := clGo env sc.names []

theorem closureFor_eq {env : Env} {sc : Scope} (h : ∀ x ∈ sc.names, x.2 = .free → ∃ ca, env.cells.lookup x.1 = some ca) : closureFor sc env = pure (clOf env sc) := by
  unfold closureFor clOf
  suffices H : ∀ (l : List (Str × NameKind)) (acc : List (Str × Addr)), (∀ x ∈ l, x.2 = .free → ∃ ca, env.cells.lookup x.1 = some ca) →
      (forIn l acc fun x (cs : List (Str × Addr)) => (match x with
        | (name, kind) => if (kind == .free) = true then do let y ← cellOf env name; pure (ForInStep.yield ((name, y) :: cs)) else pure (ForInStep.yield cs) : Sem (ForInStep (List (Str × Addr))))) = pure (clGo env l acc) by
    have := H sc.names [] h
    simp only [bind_pure]
    exact this
  intro l
  induction l with
  | nil => intro acc _; rfl
  | cons x r ih =>
    intro acc hl
    obtain ⟨n, k⟩ := x
    have hr : ∀ y ∈ r, y.2 = .free → ∃ ca, env.cells.lookup y.1 = some ca := fun y hy => hl y (List.mem_cons_of_mem _ hy)
    rw [List.forIn_cons]
    by_cases hk : (k == NameKind.free) = true
    · obtain ⟨ca, hca⟩ := hl (n, k) List.mem_cons_self (by simpa using hk)
      simp only [hk, if_true, clGo, cellOf]
      simp only at hca
      rw [hca]
      simp only [pure_bind, Option.getD_some]
      exact ih _ hr
    · have hk' : (k == NameKind.free) = false := by simpa using hk
      simp only [hk', Bool.false_eq_true, if_false, clGo, pure_bind]
      exact ih _ hr

theorem clGo_mem {env : Env} : ∀ (l : List (Str × NameKind)) (acc : List (Str × Addr)) (n : Str) (a : Addr), (n, a) ∈ clGo env l acc → (n, a) ∈ acc ∨ ((n, NameKind.free) ∈ l ∧ a = (env.cells.lookup n).getD 0)
  | [], acc, n, a, h => .inl h
  | (m, k) :: r, acc, n, a, h => by
    unfold clGo at h
    split at h
    · rename_i hk
      have hk' : k = .free := by simpa using hk
      rcases clGo_mem r _ n a h with h1 | ⟨h1, h2⟩
      · rcases List.mem_cons.mp h1 with e | h1
        · cases e; subst hk'; exact .inr ⟨List.mem_cons_self, rfl⟩
        · exact .inl h1
      · exact .inr ⟨List.mem_cons_of_mem _ h1, h2⟩
    · rcases clGo_mem r _ n a h with h1 | ⟨h1, h2⟩
      · exact .inl h1
      · exact .inr ⟨List.mem_cons_of_mem _ h1, h2⟩
theorem clGo_has {env : Env} : ∀ (l : List (Str × NameKind)) (acc : List (Str × Addr)) (n : Str), ((n, NameKind.free) ∈ l ∨ ∃ a, (n, a) ∈ acc) → ∃ a, (n, a) ∈ clGo env l acc
  | [], acc, n, h => h.elim (fun h => by cases h) id
  | (m, k) :: r, acc, n, h => by
    unfold clGo
    split
    · rename_i hk
      refine clGo_has r _ n ?_
      rcases h with h | ⟨a, h⟩
      · rcases List.mem_cons.mp h with e | h
        · cases e; exact .inr ⟨_, List.mem_cons_self⟩
        · exact .inl h
      · exact .inr ⟨a, List.mem_cons_of_mem _ h⟩
    · rename_i hk
      refine clGo_has r _ n ?_
      rcases h with h | ⟨a, h⟩
      · rcases List.mem_cons.mp h with e | h
        · cases e; exact absurd (by rfl) hk
        · exact .inl h
      · exact .inr ⟨a, h⟩
theorem lookup_of_mem {α : Type} : ∀ {l : List (Str × α)} {n : Str} {a : α}, (n, a) ∈ l → ∃ b, l.lookup n = some b
  | (m, c) :: r, n, a, h => by
    rw [List.lookup_cons]
    cases hb : n == m with
    | true => exact ⟨c, rfl⟩
    | false =>
      rcases List.mem_cons.mp h with e | h
      · cases e; simp at hb
      · exact lookup_of_mem h
theorem cl_lookup {env : Env} {sc : Scope} {n : Str} {ca : Addr} (hn : (n, NameKind.free) ∈ sc.names) (hc : env.cells.lookup n = some ca) : (clOf env sc).lookup n = some ca := by
  obtain ⟨a, ha⟩ := clGo_has (env := env) sc.names [] n (.inl hn)
  obtain ⟨b, hb⟩ := lookup_of_mem ha
  have := mem_of_lookup hb
  rcases clGo_mem _ _ _ _ this with h | ⟨_, h⟩
  · cases h
  · unfold clOf; rw [hb, h, hc]; rfl
theorem cl_from {env : Env} {sc : Scope} (hfr : ∀ x ∈ sc.names, x.2 = .free → ∃ ca, env.cells.lookup x.1 = some ca) {n : Str} {ca : Addr} (h : (clOf env sc).lookup n = some ca) : env.cells.lookup n = some ca := by
  rcases clGo_mem _ _ _ _ (mem_of_lookup h) with h | ⟨h1, h2⟩
  · cases h
  · obtain ⟨cb, hcb⟩ := hfr _ h1 rfl
    simp only at hcb
    rw [hcb] at h2 ⊢
    rw [h2]; rfl
theorem cl_apart {env : Env} {sc : Scope} (hfr : ∀ x ∈ sc.names, x.2 = .free → ∃ ca, env.cells.lookup x.1 = some ca) (ha : env.cells.Pairwise fun x y => x.2 ≠ y.2) (hnd : (sc.names.map (·.1)).Nodup) : (clOf env sc).Pairwise fun x y => x.2 ≠ y.2 := by
  suffices H : ∀ (l : List (Str × NameKind)) (acc : List (Str × Addr)), (∀ x ∈ l, x.2 = .free → ∃ ca, env.cells.lookup x.1 = some ca) → (l.map (·.1)).Nodup → (∀ n a, (n, a) ∈ acc → env.cells.lookup n = some a ∧ n ∉ l.map (·.1)) →
      (acc.Pairwise fun x y => x.2 ≠ y.2) → (clGo env l acc).Pairwise fun x y => x.2 ≠ y.2 from H _ _ hfr hnd (fun _ _ h => by cases h) .nil
  intro l
  induction l with
  | nil => intro acc _ _ _ h; exact h
  | cons x r ih =>
    intro acc h1 h2 h3 h4
    obtain ⟨m, k⟩ := x
    have h2' := List.nodup_cons.mp h2
    unfold clGo
    split
    · rename_i hk
      obtain ⟨ca, hca⟩ := h1 (m, k) List.mem_cons_self (by simpa using hk)
      simp only at hca
      rw [hca]
      refine ih _ (fun y hy => h1 y (List.mem_cons_of_mem _ hy)) h2'.2 (fun n a hm => ?_) (List.pairwise_cons.mpr ⟨fun y hy e => ?_, h4⟩)
      · rcases List.mem_cons.mp hm with e | hm
        · cases e; exact ⟨by rw [hca]; rfl, h2'.1⟩
        · exact ⟨(h3 n a hm).1, fun q => (h3 n a hm).2 (List.mem_cons_of_mem _ q)⟩
      · obtain ⟨yn, ya⟩ := y
        have h5 := h3 yn ya hy
        have e' : ca = ya := e
        have := name_of_addr ha (mem_of_lookup hca) (e' ▸ mem_of_lookup h5.1)
        exact h5.2 (by rw [← this]; exact List.mem_cons_self)
    · exact ih _ (fun y hy => h1 y (List.mem_cons_of_mem _ hy)) h2'.2 (fun n a hm => ⟨(h3 n a hm).1, fun q => (h3 n a hm).2 (List.mem_cons_of_mem _ q)⟩) h4

theorem lookup_nodup {α : Type} : ∀ {l : List (Str × α)} {n : Str} {a : α}, (l.map (·.1)).Nodup → (n, a) ∈ l → l.lookup n = some a
  | (m, c) :: r, n, a, hnd, h => by
    rw [List.lookup_cons]
    have hnd' := List.nodup_cons.mp hnd
    rcases List.mem_cons.mp h with e | h1
    · cases e; simp
    · cases hb : n == m with
      | true =>
        have e : n = m := by simpa using hb
        have h2 : n ∈ r.map (·.1) := List.mem_map_of_mem (f := fun x : Str × α => x.1) h1
        rw [e] at h2
        exact absurd h2 hnd'.1
      | false => exact lookup_nodup hnd'.2 h1

/-- the relabelled scope: a free name of a cell is a cell -/
theorem relabel_names {env : Env} {sc : Scope} : ((relabel sc env).names.map (·.1)) = sc.names.map (·.1) := by
  unfold relabel
  simp only [List.map_map]
  congr 1
  funext x
  obtain ⟨n, k⟩ := x
  simp only [Function.comp]
  split <;> rfl
end
end Mine
end
section
open PySem PyProof.Rows
set_option Elab.async false
set_option linter.unusedVariables false
namespace Mine

theorem relabel_mem {env : Env} {sc : Scope} {n : Str} {k : NameKind} (h : (n, k) ∈ sc.names) :
    (n, if (k == .free && env.scope.kind == .function && env.kindOf n == some .cell) then NameKind.cell else k) ∈ (relabel sc env).names := by
  unfold relabel
  refine List.mem_map.mpr ⟨(n, k), h, ?_⟩
  simp only
  split <;> rfl
theorem relabel_lookup {env : Env} {sc : Scope} {n : Str} {k : NameKind} (hnd : (sc.names.map (·.1)).Nodup) (h : (n, k) ∈ sc.names) :
    (relabel sc env).names.lookup n = some (if (k == .free && env.scope.kind == .function && env.kindOf n == some .cell) then NameKind.cell else k) :=
  lookup_nodup (by rw [relabel_names]; exact hnd) (relabel_mem h)

/-- what a comprehension's scope must be -/
structure CompOk (nm : Nat → Str) (vs : List Nat) (env : Env) (sc : Scope) (x : Nat) (fr : List Nat) : Prop where
  kind : sc.kind = .function
  nodup : (sc.names.map (·.1)).Nodup
  targ : (nm x, NameKind.local) ∈ sc.names
  frees : ∀ i ∈ fr, i ∈ vs ∧ (nm i, NameKind.free) ∈ sc.names ∧ env.kindOf (nm i) = some .cell
  all : ∀ y ∈ sc.names, y.2 = .free → ∃ i ∈ fr, nm i = y.1
  nocell : ∀ y ∈ sc.names, y.2 ≠ .cell
  dbg : (nm x == ("__debug__" : Str)) = false

section
variable {c : Cx} {A : Around} {nm : Nat → Str} {vs : List Nat} {env : Env} {sc : Scope} {x : Nat} {fr : List Nat}

theorem CompOk.cellsOf (co : CompOk nm vs env sc x fr) (eo : EnvOk nm vs env) : ∀ y ∈ sc.names, y.2 = .free → ∃ ca, env.cells.lookup y.1 = some ca := fun y hy hf => by
  obtain ⟨i, hi, e⟩ := co.all y hy hf
  obtain ⟨hv, _, hk⟩ := co.frees i hi
  rcases eo.kinds i hv with h | ⟨_, ca, hca⟩
  · rw [hk] at h; cases h
  · exact ⟨ca, e ▸ hca⟩

theorem CompOk.envOk (co : CompOk nm vs env sc x fr) (eo : EnvOk nm vs env) (C : Addr) : EnvOk nm (x :: fr) (compEnvC sc (clOf env sc) C env) where
  kind := co.kind
  globals := eo.globals
  builtins := eo.builtins
  inj := fun i hi j hj e => by
    have key : ∀ k ∈ fr, nm x ≠ nm k := fun k hk q => by
      have h1 := lookup_nodup co.nodup co.targ
      have h2 := lookup_nodup co.nodup (co.frees k hk).2.1
      rw [q, h2] at h1; cases h1
    rcases List.mem_cons.mp hi with e1 | h1 <;> rcases List.mem_cons.mp hj with e2 | h2
    · rw [e1, e2]
    · exact absurd (e1 ▸ e) (key j h2)
    · exact absurd (e2 ▸ e.symm) (key i h1)
    · exact eo.inj i (co.frees i h1).1 j (co.frees j h2).1 e
  kinds := fun i hi => by
    rcases List.mem_cons.mp hi with rfl | hi
    · left
      show (relabel sc env).names.lookup (nm i) = some .local
      rw [relabel_lookup co.nodup co.targ]; rfl
    · right
      obtain ⟨hv, hm, hk⟩ := co.frees i hi
      refine ⟨?_, ?_⟩
      · show (relabel sc env).names.lookup (nm i) = some .cell
        rw [relabel_lookup co.nodup hm, eo.kind, hk]; rfl
      · obtain ⟨ca, hca⟩ := co.cellsOf eo _ hm rfl
        exact ⟨ca, cl_lookup hm hca⟩
  dbg := fun i hi => by
    rcases List.mem_cons.mp hi with rfl | hi
    · exact co.dbg
    · exact eo.dbg i (co.frees i hi).1
  apart := cl_apart (co.cellsOf eo) eo.apart co.nodup

theorem onlyGo_at : ∀ (l : List Nat) (k : Nat) (ρ : PEnv) (i : Nat) (d : D), (onlyGo l k ρ).at i = some d → (k + i) ∈ l ∧ ρ.at i = some d
  | l, k, [], i, d, h => by simp [onlyGo, PEnv.at] at h
  | l, k, e :: r, 0, d, h => by
    simp only [onlyGo, PEnv.at] at h
    split at h
    · rename_i hc
      exact ⟨by simpa using hc, by simpa [PEnv.at] using h⟩
    · cases h
  | l, k, e :: r, i + 1, d, h => by
    simp only [onlyGo, PEnv.at] at h
    obtain ⟨h1, h2⟩ := onlyGo_at l (k + 1) r i d h
    exact ⟨by rw [show k + (i + 1) = k + 1 + i by omega]; exact h1, by simpa [PEnv.at] using h2⟩
theorem only_at {ρ : PEnv} {l : List Nat} {i : Nat} {d : D} (h : (ρ.only l).at i = some d) : i ∈ l ∧ ρ.at i = some d := by
  have := onlyGo_at l 0 ρ i d h
  rw [Nat.zero_add] at this
  exact this

/-- the place within a comprehension's block: nothing is raised there -/
noncomputable def Cx.block (c : Cx) (E : Value → Shared → Prop) (env : Env) (σ : Store) (P : Addr → Prop) (s : Shared) : Cx :=
  { c with E := E, X := fun _ _ => False, cur := none, F₀ := FrA env, σ₀ := σ, s₀ := s, P₀ := P, exc := fun _ _ _ _ h => h.elim }
/-- the state seen from the comprehension's block -/
theorem Good.block {ρ : PEnv} {σ : Store} {P : Addr → Prop} {s : Shared} {E₁ : Value → Shared → Prop} {σa : Store} {Pa : Addr → Prop} {sa : Shared} (g : Good c nm vs env ρ σ P s) (co : CompOk nm vs env sc x fr) (eo : EnvOk nm vs env) {C : Addr} (hC : ∃ m, s.heap.Ns C m) (hb : c.b.get? C = none) (hd : ¬ dom σ C) (hsn : Step c.W (FrA (compEnvC sc (clOf env sc) C env)) σa σ sa s) (hpa : ∀ a, Pa a → P a) :
    Good (c.block E₁ (compEnvC sc (clOf env sc) C env) σa Pa sa) nm (x :: fr) (compEnvC sc (clOf env sc) C env) (ρ.only fr) σ P s := by
  refine ⟨g.base, hC, fun y ca hy => g.cell y ca (cl_from (co.cellsOf eo) hy), fun i d e => ?_, g.st, fun a ha => ⟨(g.own a ha).1, fun hf => ?_⟩, fun a hf => ?_, g.prot, g.wp, g.wb, g.fr, hpa, hsn, fun i C hc => by cases hc⟩
  · obtain ⟨hi, hρ⟩ := only_at e
    obtain ⟨_, v, hv, hr⟩ := g.var i d hρ
    obtain ⟨_, hm, hk⟩ := co.frees i hi
    refine ⟨List.mem_cons_of_mem _ hi, v, .inr ?_, hr⟩
    rcases hv with ⟨hk', _⟩ | ⟨_, ca, hca, hcell⟩
    · rw [hk] at hk'; cases hk'
    · refine ⟨?_, ca, cl_lookup hm hca, hcell⟩
      show (relabel sc env).names.lookup (nm i) = some .cell
      rw [relabel_lookup co.nodup hm, eo.kind, hk]; rfl
  · rcases hf with rfl | ⟨y, hy⟩
    · exact hd ha
    · exact (g.own a ha).2 (.inr ⟨y, cl_from (co.cellsOf eo) hy⟩)
  · rcases hf with rfl | ⟨y, hy⟩
    · exact hb
    · exact g.fresh a (.inr ⟨y, cl_from (co.cellsOf eo) hy⟩)
end

/-! ### soundness of a value and a test -/
noncomputable def SndV (c : Cx) (A : Around) (nm : Nat → Str) (vs : List Nat) (env : Env) (x : VT) (e : Expr) : Prop := ∀ ρ σ Φ, x.v ρ σ Φ → WPv c A nm vs env ρ σ (eval e env) Φ
noncomputable def SndT (c : Cx) (A : Around) (nm : Nat → Str) (vs : List Nat) (env : Env) (x : VT) (e : Expr) : Prop := ∀ ρ σ Φ, x.t ρ σ Φ → WPb c A nm vs env ρ σ (isTrue e env (eval e env)) Φ
inductive SndL (c : Cx) (A : Around) (nm : Nat → Str) (vs : List Nat) (env : Env) : List VT → List Expr → Prop
  | nil : SndL c A nm vs env [] []
  | cons {x e xs es} : SndV c A nm vs env x e → SndT c A nm vs env x e → SndL c A nm vs env xs es → SndL c A nm vs env (x :: xs) (e :: es)

section
variable {c : Cx} {A : Around} {nm : Nat → Str} {vs : List Nat} {env : Env}

theorem ifs_false (es : List Expr) : (forIn es false fun e r => if r = true then do let ok ← isTrue e env (eval e env); pure (ForInStep.yield ok) else pure (ForInStep.yield r) : Sem Bool) = pure false := by
  induction es with
  | nil => rfl
  | cons e r ih => rw [List.forIn_cons]; simp only [Bool.false_eq_true, if_false, pure_bind]; exact ih

theorem ifs_sound {xs : List VT} {es : List Expr} (h : SndL c A nm vs env xs es) : ∀ ρ σ Φ, ifsT xs ρ σ Φ →
    WPb c A nm vs env ρ σ (forIn es true fun e r => if r = true then do let ok ← isTrue e env (eval e env); pure (ForInStep.yield ok) else pure (ForInStep.yield r)) Φ := by
  induction h with
  | nil => intro ρ σ Φ h P s g Q hQ; rw [List.forIn_nil]; exact wpAny_pure (hQ true σ s h (Step.refl _ _ _ _) g.st)
  | cons hv ht _ ih =>
    intro ρ σ Φ h P s g Q hQ
    rw [List.forIn_cons]
    simp only [ifsT] at h
    simp only [if_true]
    refine wpAny_bind (wpAny_bind (ht ρ σ _ h P s g _ fun b σ₁ s₁ hb st₁ ok₁ => wpAny_pure ?_))
    show wpAny c.M A (forIn _ b _) Q c.E s₁
    cases b with
    | true => exact ih ρ σ₁ Φ (hb.1 rfl) P s₁ (g.next st₁ ok₁) Q fun b' σ₂ s₂ h₂ st₂ ok₂ => hQ b' σ₂ s₂ h₂ (st₁.trans st₂) ok₂
    | false => rw [ifs_false]; exact wpAny_pure (hQ false σ₁ s₁ (hb.2 rfl) st₁ ok₁)

/-- a store of a local name of the block -/
theorem store_local {ρ : PEnv} {σ : Store} {P : Addr → Prop} {s : Shared} {E : Value → Shared → Prop} {x : Nat} {d : D} {v : Value} {Q : Unit → Shared → Prop} (eo : EnvOk nm vs env) (hx : x ∈ vs) (hff : ∀ a, FrA env a → c.F₀ a) (hcu : c.cur = none) (hl : env.kindOf (nm x) = some .local) (g : Good c nm vs env ρ σ P s) (hr : Rep (nd σ P) s.heap d v)
    (hQ : ∀ h' tk, Heap.SameBut env.locals s.heap h' → Good c nm vs env (ρ.put x d) σ P { s with heap := h', toks := tk } → Stay (nd σ P) (nd σ P) s.heap h' → Q () { s with heap := h', toks := tk }) : wpAny c.M A (storeName env (nm x) v) Q E s := by
  obtain ⟨m, hn⟩ := g.ns
  refine wpAny_storeName_local hl hn (fun h' hn' hs' => ?_) (by rw [eo.kind]; rfl)
  have hL : FrA env env.locals := .inl rfl
  have k : ∀ b o, b ≠ env.locals → s.heap.get? b = some o → h'.get? b = some o := fun b o hb e => hs'.extBut b o hb e
  have st := g.stay_fr hL k
  have ndL : ¬ dom σ env.locals := fun hd => (g.own _ hd).2 hL
  have cb : ∀ (y : Str) (cb : Addr), env.cells.lookup y = some cb → cb ≠ env.locals := fun y cb hy q => by
    obtain ⟨w, o, ho, hd⟩ := g.cell y cb hy
    obtain ⟨o', es, ep, ho', hd', _⟩ := hn
    rw [q, ho'] at ho; cases ho; rw [hd'] at hd; cases hd
  have al : ∀ a o, s.heap.get? a = some o → ∃ o', h'.get? a = some o' := fun a o e => by
    by_cases hb : a = env.locals
    · subst hb; obtain ⟨o', es, ep, ho', _⟩ := hn'; exact ⟨o', ho'⟩
    · exact ⟨o, k a o hb e⟩
  have stp : ∀ tk, Step c.W (FrA env) σ σ s { s with heap := h', toks := tk } := fun tk => Step.mk' ⟨h', tk, rfl⟩ (fun a o e hd hf => k a o (fun q => hf (q ▸ hL)) e) al (fun a h => .inl h)
  refine hQ h' _ hs' ⟨fun a o e => k a o (fun q => by rw [q, g.fresh _ hL] at e; cases e) (g.base a o e), ⟨_, hn'⟩, fun y ca hy => ?_, fun i e hi => ?_, g.st.fr st ndL k, g.own, g.fresh, fun a ha => ?_, g.wp, g.wb, fun e he => ?_, g.p0, g.since.trans ((stp _).weak hff), fun i C hc => by rw [hcu] at hc; cases hc⟩ st
  · obtain ⟨w, o, ho, hd⟩ := g.cell y ca hy
    exact ⟨w, o, k ca o (cb y ca hy) ho, hd⟩
  · rcases PEnv.at_put ρ x i d e hi with ⟨rfl, rfl⟩ | ⟨hne, hi'⟩
    · exact ⟨hx, v, .inl ⟨hl, _, hn', by simp⟩, Rep.stay st _ _ hr⟩
    · obtain ⟨hm, u, hu, hru⟩ := g.var i e hi'
      refine ⟨hm, u, ?_, Rep.stay st _ _ hru⟩
      rcases hu with ⟨a, m', hn2, hm2⟩ | ⟨a, ca, hc, o, ho, hd⟩
      · have := ns_unique hn hn2
        subst this
        exact .inl ⟨a, _, hn', by rw [if_neg (fun q => hne (eo.inj i hm x hx q))]; exact hm2⟩
      · exact .inr ⟨a, ca, hc, o, k ca o (cb _ ca hc) ho, hd⟩
  · obtain ⟨o, ho⟩ := g.prot a ha
    by_cases hb : a = env.locals
    · subst hb; obtain ⟨o', es, ep, ho', _⟩ := hn'; exact ⟨o', ho'⟩
    · exact ⟨o, k a o hb ho⟩
  · obtain ⟨q1, L', o, q2, q3, q4⟩ := g.fr e he
    by_cases hb : L' = env.locals
    · subst hb
      obtain ⟨o', es, ep, ho', hd', _⟩ := hn'
      exact ⟨q1, _, o', q2, ho', fun vs q => by rw [hd'] at q; cases q⟩
    · exact ⟨q1, L', o, q2, k L' o hb q3, q4⟩
end
end Mine
end
section
open PySem PyProof.Rows
set_option Elab.async false
set_option linter.unusedVariables false
namespace Mine
section
variable {c : Cx} {A : Around} {nm : Nat → Str} {vs : List Nat} {env : Env} {sc : Scope} {x : Nat} {fr : List Nat}

/-- the loop of a comprehension; s₀: ahead of the iterator -/
theorem put_other : ∀ (r : PEnv) (a b : Nat) (z : D), b ≠ a → (r.put a z).at b = r.at b
  | [], _, _, _, _ => rfl
  | _ :: _, 0, 0, _, h => absurd rfl h
  | _ :: _, 0, _ + 1, _, _ => rfl
  | _ :: _, _ + 1, 0, _, _ => rfl
  | _ :: r, a + 1, b + 1, z, h => put_other r a b z fun q => h (congrArg (· + 1) q)
/-- the block without the target -/
theorem Good.untarget {env' : Env} {ρ : PEnv} {z : D} {σ' : Store} {P' : Addr → Prop} {s'' : Shared} (co : CompOk nm vs env sc x fr) (ga : Good c nm (x :: fr) env' ((ρ.only fr).put x z) σ' P' s'') : Good c nm (x :: fr) env' (ρ.only fr) σ' P' s'' :=
  ⟨ga.base, ga.ns, ga.cell, fun i e hi => by
    obtain ⟨hif, hρ⟩ := only_at hi
    have hne : i ≠ x := fun q => by
      subst q
      have h1 := lookup_nodup co.nodup co.targ
      have h2 := lookup_nodup co.nodup (co.frees i hif).2.1
      rw [h2] at h1; cases h1
    refine ga.var i e ?_
    rw [put_other _ _ _ _ hne]; exact hi, ga.st, ga.own, ga.fresh, ga.prot, ga.wp, ga.wb, ga.fr, ga.p0, ga.since, ga.cur⟩
theorem comp_turns {P' : Addr → Prop} {I : Addr} {ds : List D} {ok : Store → (Addr → Prop) → Heap → Prop} {It : Nat → Heap → Prop} (T : Turns c A I ds ok It) {d : D} {v : Value} {keep : Store → Prop} {ec : Env} {C Dl : Addr} {s₀ s : Shared} {σ₀ : Store} {ρ : PEnv} {vt : VT} {vts : List VT} {elt iter : Expr} {ifs : List Expr} {xp pos : Pos}
    (hok : ∀ (σ : Store) (s : Shared), Rep (nd σ P') s.heap d v → StoreOk σ P' s.heap → keep σ → ok σ P' s.heap)
    (co : CompOk nm vs env sc x fr) (eoc : EnvOk nm (x :: fr) ec) (hkx : ec.kindOf (nm x) = some .local) (hLC : ec.locals = C) (helt : SndV c A nm (x :: fr) ec vt elt) (hifs : SndL c A nm (x :: fr) ec vts ifs)
    (hff : ∀ a, FrA ec a → c.F₀ a) (hcu : c.cur = none) (h0I : c.s₀.heap.get? I = none) (h0D : c.s₀.heap.get? Dl = none) (wI : ¬ c.W I) (wD : ¬ c.W Dl) {R : Result → Shared → Prop} (hcE : c.E = notedBy (model c.prog c.w) A ec fun e s' => R (.error e) s')
    (bI : c.b.get? I = none) (fI : ¬ FrA ec I) (pI : ¬ P' I) (bD : c.b.get? Dl = none) (fD : ¬ FrA ec Dl) (pD : P' Dl) (hI : s₀.heap.get? I = none) (hC : s₀.heap.get? C = none) (hD : s₀.heap.get? Dl = none) (hDC : Dl ≠ C) (hDI : Dl ≠ I) (hCI : C ≠ I)
    (it : It 0 s.heap) (hacc : s.heap.PlainList Dl #[]) (gb : Good c nm (x :: fr) ec (ρ.only fr) σ₀ P' s) (st0 : Step c.W noF σ₀ σ₀ s₀ s) (hd : Rep (nd σ₀ P') s.heap d v) (hk : keep σ₀) (hsz : ds.length ≤ small) {Ψ : List D → Store → Prop} {stp : D → Store → (Option D → Store → Prop) → Prop}
    (hstp : stp = fun e σ' K => ifsT vts ((ρ.only fr).put x e) σ' fun b σ'' => (b = true → vt.v ((ρ.only fr).put x e) σ'' fun r σ₃ => K (some r) σ₃) ∧ (b = false → K Option.none σ'')) (hcomp : compS stp keep ds σ₀ [] Ψ)
    (hR : ∀ s' us out σ', Ψ out σ' → ¬ dom σ' C → (∃ m, s'.heap.Ns C m) → s'.heap.PlainList Dl us → RepL (nd σ' P') s'.heap out us.toList → StoreOk σ' P' s'.heap → Step c.W noF σ₀ σ' s₀ s' → R (.ok .next) s') :
    codeAny c.M A (.compLoop (.ListComp elt [⟨.Name (nm x) xp, iter, ifs, 0⟩] sc pos) 0 (.ref I) (.ref Dl) ec) R s := by
  refine codeAny_compLoop_tests
    (fun n s' => ∃ k σ acc us, k ≤ ds.length ∧ n = ds.length - k ∧ It k s'.heap ∧ Good c nm (x :: fr) ec (ρ.only fr) σ P' s' ∧ Step c.W noF σ₀ σ s₀ s' ∧
      Rep (nd σ P') s'.heap d v ∧ keep σ ∧ s'.heap.PlainList Dl us ∧ RepL (nd σ P') s'.heap acc us.toList ∧ acc.length ≤ k ∧
      compS stp keep (ds.drop k) σ acc Ψ)
    ?_ ds.length ⟨0, σ₀, [], #[], Nat.zero_le _, rfl, it, gb, st0, hd, hk, hacc, .nil, Nat.le_refl _, hcomp⟩
  rw [← hcE]
  rintro n s' ⟨k, σ, acc, us, hkl, rfl, it', g', st', hd', hk', hl', hr', hal', hc'⟩
  obtain ⟨oI, ws, hoI, hdI⟩ := T.alive k _ it'
  by_cases hlt : k < ds.length
  · have hget : ds[k]? = some ds[k] := List.getElem?_eq_getElem hlt
    have hdrop : ds.drop k = ds[k] :: ds.drop (k + 1) := List.drop_eq_getElem_cons hlt
    rw [hdrop] at hc'
    subst hstp
    simp only [compS] at hc'
    refine T.item k _ s' σ _ _ _ hget it' (hok σ s' hd' g'.st hk') fun u h₁ tk₁ it₁ hs₁ hr₁ => ?_
    have kb : ∀ b o, b ≠ I → s'.heap.get? b = some o → h₁.get? b = some o := fun b o hb e => hs₁.extBut b o hb e
    obtain ⟨g₁, stay₁⟩ := g'.change hcu h0I wI bI fI (not_dom_of_fields g'.st hoI hdI) (fun o items n _ ho => by rw [hoI] at ho; cases ho; rw [hdI]; exact fun e => by cases e) (tk := tk₁)
      (fun q => (pI q).elim) kb
    have st₁ : Step c.W noF σ₀ σ s₀ { s' with heap := h₁, toks := tk₁ } := st'.but hI kb
    have hl₁ : h₁.PlainList Dl us := hl'.at fun o e => kb Dl o hDI e
    refine wpAny_assign_Name (store_local eoc List.mem_cons_self hff hcu hkx g₁ (Rep.stay stay₁ _ _ hr₁) fun h₂ tk₂ hs₂ g₂ stay₂ => ?_)
    rw [hLC] at hs₂
    have kc : ∀ b o, b ≠ C → h₁.get? b = some o → h₂.get? b = some o := fun b o hb e => hs₂.extBut b o hb e
    have st₂ : Step c.W noF σ₀ σ s₀ { s' with heap := h₂, toks := tk₂ } := st₁.but hC kc
    have it₂ : It (k + 1) h₂ := T.mv _ _ _ it₁ fun o e => kc I o hCI.symm e
    have hl₂ : h₂.PlainList Dl us := hl₁.at fun o e => kc Dl o hDC e
    have hr₂ : RepL (nd σ P') h₂ acc us.toList := RepL.stay stay₂ _ _ (RepL.stay stay₁ _ _ hr')
    have hd₂ : Rep (nd σ P') h₂ d v := Rep.stay stay₂ _ _ (Rep.stay stay₁ _ _ hd')
    -- what stays for the objects of the loop under a step of the block
    have keepI : ∀ (σa σb : Store) (sa sb : Shared) (ρa : PEnv) (j : Nat), Good c nm (x :: fr) ec ρa σa P' sa → Step c.W noF σa σb sa sb → It j sa.heap → It j sb.heap := fun σa σb sa sb ρa j ga st i => by
      obtain ⟨o, w, ho, hd⟩ := T.alive j _ i
      exact T.mv _ _ _ i fun o' e => st.keep I o' e (not_dom_of_fields ga.st ho hd) (fun h => h) wI
    have keepD : ∀ (σa σb : Store) (sa sb : Shared) (ρa : PEnv) (ws : Array Value), Good c nm (x :: fr) ec ρa σa P' sa → Step c.W noF σa σb sa sb → sa.heap.PlainList Dl ws → sb.heap.PlainList Dl ws := fun σa σb sa sb ρa ws ga st hl => by
      exact hl.at fun o ho => st.keep Dl o ho (fun hd => ga.st.free Dl hd pD) (fun h => h) wD
    refine ifs_sound hifs _ _ _ hc' _ _ g₂ _ fun b σ₃ s₃ hb st₃ ok₃ => ?_
    have g₃ := g₂.next st₃ ok₃
    have it₃ := keepI _ _ _ _ _ _ g₂ st₃ it₂
    have hl₃ := keepD _ _ _ _ _ _ g₂ st₃ hl₂
    have hr₃ := RepL.stay (st₃.stay g₂.wp) _ _ hr₂
    have hd₃ := Rep.stay (st₃.stay g₂.wp) _ _ hd₂
    have st03 := st₂.trans st₃
    cases b with
    | false =>
      simp only [Bool.false_eq_true, if_false]
      have := hb.2 rfl
      simp only [Option.toList_none, List.append_nil] at this
      exact ⟨ds.length - (k + 1), by omega, k + 1, σ₃, acc, us, hlt, rfl, it₃, Good.untarget co g₃, st03, hd₃, this.1, hl₃, hr₃, by omega, this.2⟩
    | true =>
      simp only [if_true]
      refine helt _ _ _ (hb.1 rfl) _ _ g₃ _ fun y dy σ₄ s₄ hK st₄ ok₄ ry => ?_
      have g₄ := g₃.next st₄ ok₄
      have it₄ := keepI _ _ _ _ _ _ g₃ st₄ it₃
      have hl₄ := keepD _ _ _ _ _ _ g₃ st₄ hl₃
      have hr₄ := RepL.stay (st₄.stay g₃.wp) _ _ hr₃
      have hd₄ := Rep.stay (st₄.stay g₃.wp) _ _ hd₃
      have st04 := st03.trans st₄
      have el := hr₄.length
      simp only [Array.length_toList] at el
      refine wpAny_list_append_plain hl₄ (fun h₅ hl₅ hs₅ => ?_) (by have := sizeLine_small; omega)
      have kd : ∀ b o, b ≠ Dl → s₄.heap.get? b = some o → h₅.get? b = some o := fun b o hb e => hs₅.extBut b o hb e
      obtain ⟨g₅, stay₅⟩ := g₄.change hcu h0D wD bD fD (fun hd => g₄.st.free Dl hd pD) (fun o items n hn => absurd pD hn.2) (tk := s₄.toks)
        (fun _ => let ⟨_, ho⟩ := hl₅; ⟨_, ho⟩) kd
      have st05 : Step c.W noF σ₀ σ₄ s₀ { s₄ with heap := h₅ } := st04.but hD kd
      obtain ⟨oI', ws', hoI', hdI'⟩ := T.alive (k + 1) _ it₄
      refine ⟨ds.length - (k + 1), by omega, k + 1, σ₄, acc ++ [dy], us.push y, hlt, rfl, T.mv _ _ _ it₄ fun o e => kd I o hDI.symm e, Good.untarget co g₅, st05, Rep.stay stay₅ _ _ hd₄, hK.1, hl₅, ?_, by rw [List.length_append, List.length_singleton]; omega, by simpa using hK.2⟩
      have := RepL.append (RepL.stay stay₅ _ _ hr₄) (RepL.one (Rep.stay stay₅ _ _ ry))
      simpa using this
  · have hke : k = ds.length := by omega
    subst hke
    rw [List.drop_length] at hc'
    simp only [compS] at hc'
    refine T.done s' σ _ _ _ it' (hok σ s' hd' g'.st hk') fun h₁ tk₁ he₁ => ?_
    have kb : ∀ b o, b ≠ I → s'.heap.get? b = some o → h₁.get? b = some o := fun b o hb e => he₁ b o hb e
    obtain ⟨g₁, stay₁⟩ := g'.change hcu h0I wI bI fI (not_dom_of_fields g'.st hoI hdI) (fun o items n _ ho => by rw [hoI] at ho; cases ho; rw [hdI]; exact fun e => by cases e) (tk := tk₁)
      (fun q => (pI q).elim) kb
    exact hR _ us acc σ hc' (fun hx => (g₁.own C hx).2 (.inl hLC.symm)) (by have := g₁.ns; rwa [hLC] at this) (hl'.at fun o e => kb Dl o hDI e) (RepL.stay stay₁ _ _ hr') g₁.st (st'.but hI kb)
theorem comp_loop {P : Addr → Prop} {I : Addr} {ds : List D} {ok : Store → (Addr → Prop) → Heap → Prop} {It : Nat → Heap → Prop} (T : Turns c A I ds ok It) {d : D} {v : Value} {keep : Store → Prop}
    (hok : ∀ (σ : Store) (P : Addr → Prop) (s : Shared), Rep (nd σ P) s.heap d v → StoreOk σ P s.heap → keep σ → ok σ P s.heap)
    (co : CompOk nm vs env sc x fr) (eo : EnvOk nm vs env) {C Dl : Addr} {xp pos : Pos} {iter elt : Expr} {ifs : List Expr} {vt : VT} {vts : List VT}
    (helt : ∀ E₁ σa Pa sa, SndV (c.block E₁ (compEnvC sc (clOf env sc) C env) σa Pa sa) A nm (x :: fr) (compEnvC sc (clOf env sc) C env) vt elt) (hifs : ∀ E₁ σa Pa sa, SndL (c.block E₁ (compEnvC sc (clOf env sc) C env) σa Pa sa) A nm (x :: fr) (compEnvC sc (clOf env sc) C env) vts ifs)
    {ρ : PEnv} {σ₀ : Store} {s₀ s : Shared} (g₀ : Good c nm vs env ρ σ₀ P s₀) (hI : s₀.heap.get? I = none) (hC : s₀.heap.get? C = none) (hD : s₀.heap.get? Dl = none) (hDC : Dl ≠ C) (hDI : Dl ≠ I) (hCI : C ≠ I)
    (hk0 : ∀ b o, s₀.heap.get? b = some o → s.heap.get? b = some o) (hsame : ∃ h' tk, s = { s₀ with heap := h', toks := tk }) (it : It 0 s.heap) (hnsC : ∃ m, s.heap.Ns C m) (hacc : s.heap.PlainList Dl #[])
    (hd : Rep (nd σ₀ P) s₀.heap d v) (hk : keep σ₀) (hsz : ds.length ≤ small) {Ψ : List D → Store → Prop}
    (hcomp : compS (fun e σ' K => ifsT vts ((ρ.only fr).put x e) σ' fun b σ'' => (b = true → vt.v ((ρ.only fr).put x e) σ'' fun r σ₃ => K (some r) σ₃) ∧ (b = false → K Option.none σ'')) keep ds σ₀ [] Ψ)
    {R : Result → Shared → Prop}
    (hR : ∀ s' us out σ', Ψ out σ' → ¬ dom σ' C → (∃ m, s'.heap.Ns C m) → s'.heap.PlainList Dl us → RepL (nd σ' fun a => P a ∨ a = Dl) s'.heap out us.toList → StoreOk σ' (fun a => P a ∨ a = Dl) s'.heap → Step c.W noF σ₀ σ' s₀ s' → R (.ok .next) s') :
    codeAny c.M A (.compLoop (.ListComp elt [⟨.Name (nm x) xp, iter, ifs, 0⟩] sc pos) 0 (.ref I) (.ref Dl) (compEnvC sc (clOf env sc) C env)) R s := by
  have nob : ∀ a, s₀.heap.get? a = none → c.b.get? a = none := fun a ha => by
    cases e : c.b.get? a with
    | none => rfl
    | some o => rw [g₀.base a o e] at ha; cases ha
  have nod : ∀ a, s₀.heap.get? a = none → ¬ dom σ₀ a := fun a ha hx => by obtain ⟨o, ho⟩ := g₀.st.alive hx; rw [ha] at ho; cases ho
  have nop : ∀ a, s₀.heap.get? a = none → ¬ P a := fun a ha hx => by obtain ⟨o, ho⟩ := g₀.prot a hx; rw [ha] at ho; cases ho
  have nof : ∀ a, s₀.heap.get? a = none → ¬ FrA env a := fun a ha hx => by obtain ⟨o, ho, _⟩ := g₀.fr_alive hx; rw [ha] at ho; cases ho
  have nofc : ∀ a, s₀.heap.get? a = none → a ≠ C → ¬ FrA (compEnvC sc (clOf env sc) C env) a := fun a ha hne hx => by
    rcases hx with rfl | ⟨y, hy⟩
    · exact hne rfl
    · exact nof a ha (.inr ⟨y, cl_from (co.cellsOf eo) hy⟩)
  have eoc := co.envOk eo C
  -- the state at the start, with the accumulator protected
  have gs : Good c nm vs env ρ σ₀ P s := by
    refine g₀.next (Step.of_keeps ?_) (g₀.st.keeps hk0)
    obtain ⟨h', tk, rfl⟩ := hsame
    exact ⟨h', tk, rfl, hk0⟩
  have stay0 : Stay (nd σ₀ P) (nd σ₀ fun a => P a ∨ a = Dl) s₀.heap s.heap := fun a o hN ho _ => ⟨hk0 a o ho, hN.1, fun q => q.elim hN.2 (fun e => by subst e; rw [hD] at ho; cases ho)⟩
  have gp : Good c nm vs env ρ σ₀ (fun a => P a ∨ a = Dl) s := by
    refine ⟨gs.base, gs.ns, gs.cell, fun i e hi => ?_, ⟨fun a mo e => ?_, gs.st.apart, fun a ha q => q.elim (gs.st.free a ha) (fun e => nod _ hD (e ▸ ha))⟩, gs.own, gs.fresh, fun a ha => ?_, fun a h => .inl (gs.wp a h), gs.wb, gs.fr, fun a h => .inl (gs.p0 a h), gs.since, fun i C hc => ?_⟩
    · obtain ⟨h1, u, hu, hru⟩ := g₀.var i e hi
      refine ⟨h1, u, hu.keep' fun a o _ ho => hk0 a o ho, Rep.stay stay0 _ _ hru⟩
    · exact MRep.stay stay0 (fun b o _ ho => hk0 b o ho) (g₀.st.rep a mo e)
    · rcases ha with h | rfl
      · exact gs.prot a h
      · obtain ⟨n, ho⟩ := hacc; exact ⟨_, ho⟩
    · obtain ⟨h0, a, o, h1, h2, h3, h4⟩ := g₀.cur i C hc
      exact ⟨h0, a, o, h1.keep' fun a o _ ho => hk0 a o ho, ⟨h2.1, fun q => q.elim h2.2 fun e => by rw [e, hD] at h3; cases h3⟩, hk0 a o h3, h4⟩
  have st0 : Step c.W noF σ₀ σ₀ s₀ s := Step.of_keeps (by obtain ⟨h', tk, rfl⟩ := hsame; exact ⟨h', tk, rfl, hk0⟩)
  have now : ∀ a, s₀.heap.get? a = none → ¬ c.W a := fun a ha hw => nop a ha (g₀.wp a hw)
  have gb : Good (c.block (notedBy (model c.prog c.w) A (compEnvC sc (clOf env sc) C env) fun e s' => R (.error e) s') (compEnvC sc (clOf env sc) C env) σ₀ (fun a => P a ∨ a = Dl) s₀) nm (x :: fr) (compEnvC sc (clOf env sc) C env) (ρ.only fr) σ₀ (fun a => P a ∨ a = Dl) s :=
    gp.block co eo hnsC (nob C hC) (nod C hC) (st0.weak fun _ h => h.elim) fun _ h => h
  exact comp_turns (c := c.block _ _ σ₀ (fun a => P a ∨ a = Dl) s₀) ⟨T.mv, T.alive, T.item, T.done, T.self⟩ (fun σ s => hok σ _ s) co eoc (by
      show (relabel sc env).names.lookup (nm x) = some .local
      rw [relabel_lookup co.nodup co.targ]; rfl) rfl (helt _ _ _ _) (hifs _ _ _ _) (fun _ h => h) rfl hI hD (now I hI) (now Dl hD) rfl (nob I hI) (nofc I hI hCI.symm) (fun q => q.elim (nop I hI) fun e => hDI e.symm) (nob Dl hD) (nofc Dl hD hDC) (.inr rfl) hI hC hD hDC hDI hCI it hacc gb st0 (Rep.stay stay0 _ _ hd) hk hsz rfl hcomp hR
end
end Mine
end
section
open PySem PyProof.Rows
set_option Elab.async false
set_option linter.unusedVariables false
namespace Mine

theorem ne_of_lt_succ {b n m : Nat} (h : b < n) (e : m = n + 1) : b ≠ m := by omega

/-- what pyIter does at a value that stands for the items ds -/
noncomputable def ItV (c : Cx) (A : Around) (d : D) (ds : List D) (σ : Store) (P : Addr → Prop) (xv : Value) (s : Shared) : Prop :=
  ∃ v, Rep (nd σ P) s.heap d v ∧ keepS d ds σ ∧ ∀ (Q : Value → Shared → Prop) (E : Value → Shared → Prop),
    (∀ I ok It s₂, s.heap.get? I = none → Keeps s s₂ → Turns c A I ds ok It → It 0 s₂.heap → (∀ (σ' : Store) (P' : Addr → Prop) (s' : Shared), Rep (nd σ' P') s'.heap d v → StoreOk σ' P' s'.heap → keepS d ds σ' → ok σ' P' s'.heap) → Q (.ref I) s₂) → wpAny c.M A (pyIter xv) Q E s

noncomputable def SndI (c : Cx) (A : Around) (nm : Nat → Str) (vs : List Nat) (env : Env) (tr : PEnv → Store → (D → List D → Store → Prop) → Prop) (e : Expr) : Prop :=
  ∀ ρ σ Φ, tr ρ σ Φ → ∀ P s, Good c nm vs env ρ σ P s → ∀ (Q : Value → Shared → Prop),
    (∀ xv d ds σ' s', Φ d ds σ' → Step c.W noF σ σ' s s' → StoreOk σ' P s'.heap → ItV c A d ds σ' P xv s' → Q xv s') → wpAny c.M A (eval e env) Q c.E s

section
variable {c : Cx} {A : Around} {nm : Nat → Str} {vs : List Nat} {env : Env}

theorem itv_seq {σ : Store} {P : Addr → Prop} {s : Shared} {d : D} {ds : List D} {v : Value} (hh : A.handled = none) (ok : StoreOk σ P s.heap) (hr : Rep (nd σ P) s.heap d v) (e : asL σ d = some ds) : ItV c A d ds σ P v s := by
  cases d <;> simp only [asL] at e <;> try cases e
  · -- tuple
    have hr' := hr
    simp only [Rep] at hr
    obtain ⟨a, us, rfl, _, hl, hw⟩ := hr
    refine ⟨_, hr', trivial, fun Q E hQ => wpAny_pyIter_tuple hl (hQ s.heap.objs.size _ _ _ (get?_size_none _) (keeps_push' s _) (Turns.tuple hh _ a ds) ⟨_, Heap.get?_push_size _ rfl, rfl, rfl⟩ fun σ' P' s' hr2 ok2 _ => ?_)⟩
    simp only [Rep] at hr2
    obtain ⟨a', us', q, _, hl', hw'⟩ := hr2
    cases q
    exact ⟨us', by rw [if_neg (by decide)]; exact hl', hw'⟩
  · -- list
    have hr' := hr
    simp only [Rep] at hr
    obtain ⟨a, us, rfl, _, hl, hw⟩ := hr
    refine ⟨_, hr', trivial, fun Q E hQ => wpAny_pyIter_list hl (hQ s.heap.objs.size _ _ _ (get?_size_none _) (keeps_push' s _) (Turns.list hh _ a ds) ⟨_, Heap.get?_push_size _ rfl, rfl, rfl⟩ fun σ' P' s' hr2 ok2 _ => ?_)⟩
    simp only [Rep] at hr2
    obtain ⟨a', us', q, _, hl', hw'⟩ := hr2
    cases q
    exact ⟨us', by rw [if_pos rfl]; exact hl', hw'⟩
  · rename_i a
    have hr' := hr
    simp only [Rep] at hr
    subst hr
    cases h : σ a with
    | none => rw [h] at e; cases e
    | some mo =>
      rw [h] at e
      cases mo with
      | mlist xs =>
        cases e
        obtain ⟨us, hl, hw⟩ := ok.rep a _ h
        refine ⟨_, hr', h, fun Q E hQ => wpAny_pyIter_list hl.isList (hQ s.heap.objs.size _ _ _ (get?_size_none _) (keeps_push' s _) (Turns.list hh _ a ds) ⟨_, Heap.get?_push_size _ rfl, rfl, rfl⟩ fun σ' P' s' hr2 ok2 hk2 => ?_)⟩
        obtain ⟨us', hl', hw'⟩ := ok2.rep a _ hk2
        exact ⟨us', by rw [if_pos rfl]; exact hl'.isList, hw'⟩
      | inst C dx fs => cases e
      | mdict kvs => cases e

theorem itv_range {σ : Store} {P : Addr → Prop} {s : Shared} {r : Addr} {n : Int} {t u w : Tok} (hh : A.handled = none) (hr : IsRange s.heap r 0 n 1 t u w) (h1 : n ≤ small) (h2 : -small ≤ n) : ItV c A .none (rangeD n) σ P (.ref r) s := by
  unfold small at h1 h2
  refine ⟨.none, rep_none, trivial, fun Q E hQ => wpAny_pyIter_range hr (small_one (by omega) (by omega) (by omega) (by omega)) (hQ s.heap.objs.size _ _ _ (get?_size_none _) (keeps_push' s _) (Turns.range hh _ n) ?_ fun _ _ _ _ _ _ => trivial)⟩
  show IsRangeIter _ _ ((0 : Nat) : Int) ((n.toNat : Int) - ((0 : Nat) : Int)) 1
  have e : Builtin.Range.rangeSize 0 n 1 = (n.toNat : Int) - ((0 : Nat) : Int) := by rw [rangeSize_one]; split <;> omega
  rw [← e]
  exact Heap.get?_push_size _ rfl

/-- the block of a comprehension behind the iterator -/
theorem comp_block {P : Addr → Prop} {sc : Scope} {x : Nat} {fr : List Nat} {I : Addr} {ds : List D} {ok : Store → (Addr → Prop) → Heap → Prop} {It : Nat → Heap → Prop} (T : Turns c A I ds ok It) {d : D} {v : Value} {keep : Store → Prop}
    (hok : ∀ (σ : Store) (P : Addr → Prop) (s : Shared), Rep (nd σ P) s.heap d v → StoreOk σ P s.heap → keep σ → ok σ P s.heap)
    (co : CompOk nm vs env sc x fr) (eo : EnvOk nm vs env) {xp pos : Pos} {iter elt : Expr} {ifs : List Expr} {vt : VT} {vts : List VT}
    (helt : ∀ C E₁ σa Pa sa, SndV (c.block E₁ (compEnvC sc (clOf env sc) C env) σa Pa sa) A nm (x :: fr) (compEnvC sc (clOf env sc) C env) vt elt) (hifs : ∀ C E₁ σa Pa sa, SndL (c.block E₁ (compEnvC sc (clOf env sc) C env) σa Pa sa) A nm (x :: fr) (compEnvC sc (clOf env sc) C env) vts ifs)
    {ρ : PEnv} {σ₀ : Store} {s₀ s : Shared} (g₀ : Good c nm vs env ρ σ₀ P s₀) (hI : s₀.heap.get? I = none) (kp : Keeps s₀ s) (it : It 0 s.heap) (hd : Rep (nd σ₀ P) s₀.heap d v) (hk : keep σ₀) (hsz : ds.length ≤ small) {Ψ : List D → Store → Prop}
    (hcomp : compS (fun e σ' K => ifsT vts ((ρ.only fr).put x e) σ' fun b σ'' => (b = true → vt.v ((ρ.only fr).put x e) σ'' fun r σ₃ => K (some r) σ₃) ∧ (b = false → K Option.none σ'')) keep ds σ₀ [] Ψ)
    {RR : Value → Addr → Result → Shared → Prop} {E : Value → Shared → Prop}
    (hR : ∀ Dl C s' us out σ', s₀.heap.get? Dl = none → s₀.heap.get? C = none → Dl ≠ C → Ψ out σ' → ¬ dom σ' C → (∃ m, s'.heap.Ns C m) → s'.heap.PlainList Dl us → RepL (nd σ' fun a => P a ∨ a = Dl) s'.heap out us.toList → StoreOk σ' (fun a => P a ∨ a = Dl) s'.heap → Step c.W noF σ₀ σ' s₀ s' →
      RR (.ref Dl) C (.ok .next) s') :
    wpAny c.M A (newList []) (fun acc s₃ => wpAny c.M A (newFunctionEnv sc env.globals (clOf env sc) [] env.qual Option.none .none (some env)) (fun cenv s₄ =>
      codeAny c.M A (.compStart (.ListComp elt [⟨.Name (nm x) xp, iter, ifs, 0⟩] sc pos) 0 (.ref I) acc { cenv with scope := relabel sc env }) (RR acc cenv.locals) s₄) E s₃) E s := by
  obtain ⟨h₂, tk₂, rfl, hk2⟩ := kp
  obtain ⟨oI, ws, hoI, _⟩ := T.alive 0 _ it
  refine wpAny_newObj_type (wpAny_newFunctionEnv co.nocell (by intro y hy; simp at hy) (fun h₁ hns₁ hsb₁ => ?_) co.kind)
  dsimp only at hns₁ hsb₁ hoI it ⊢
  generalize hH2 : h₂.push { cls := .type "list", dict := Option.none, data := .seq ([] : List Value).toArray } = H2 at hns₁ hsb₁ ⊢
  have hC : H2.objs.size = h₂.objs.size + 1 := by rw [← hH2, Heap.size_push]
  have hDC : h₂.objs.size ≠ H2.objs.size := by omega
  have old : ∀ b o, h₂.get? b = some o → h₁.get? b = some o := fun b o e => hsb₁.extBut b o (ne_of_lt_succ (Heap.lt_size e) hC) (Heap.get?_push_of_some _ (hH2 ▸ Heap.get?_push_of_some _ e))
  have none0 : ∀ a, h₂.objs.size ≤ a → s₀.heap.get? a = none := fun a ha => by
    cases e : s₀.heap.get? a with
    | none => rfl
    | some o' => exact absurd (Heap.lt_size (hk2 _ _ e)) (Nat.not_lt.mpr ha)
  have hacc : h₁.PlainList h₂.objs.size #[] := ⟨0, hsb₁.extBut _ _ hDC (Heap.get?_push_of_some _ (hH2 ▸ Heap.get?_push_size _ rfl))⟩
  have hIlt := Heap.lt_size hoI
  have it₁ : It 0 h₁ := T.mv _ _ _ it fun o e => old I o e
  have loop : ∀ s₃ : Shared, s₃ = { s₀ with heap := h₁, toks := tk₂ + ([] : List (Str × Value)).length } →
      codeAny c.M A (.compLoop (.ListComp elt [⟨.Name (nm x) xp, iter, ifs, 0⟩] sc pos) 0 (.ref I) (.ref h₂.objs.size) (compEnvC sc (clOf env sc) H2.objs.size env)) (RR (.ref h₂.objs.size) H2.objs.size) s₃ := by
    rintro s₃ rfl
    exact comp_loop T hok co eo (helt _) (hifs _) g₀ hI (none0 _ (by omega)) (none0 _ (Nat.le_refl _)) hDC (Nat.ne_of_gt hIlt) (fun q => ne_of_lt_succ hIlt hC q.symm) (fun b o e => old b o (hk2 b o e)) ⟨_, _, rfl⟩ it₁ ⟨_, hns₁⟩ hacc hd hk hsz hcomp
      fun s' us out σ' h1 h2 h3 h4 h5 h6 h7 => hR _ _ s' us out σ' (none0 _ (Nat.le_refl _)) (none0 _ (by omega)) hDC h1 h2 h3 h4 h5 h6 h7
  refine codeAny_compStart_list (loop _ rfl) ?_
  have g1 : StoreOk σ₀ P h₁ := g₀.st.keeps fun b o e => old b o (hk2 b o e)
  refine T.self 0 _ σ₀ P _ _ it₁ (hok σ₀ P { s₀ with heap := h₁, toks := tk₂ + ([] : List (Str × Value)).length } (hd.keeps fun b o e => old b o (hk2 b o e)) g1 hk) ?_
  exact loop _ rfl
end
end Mine
end
section
open PySem PyProof.Rows
set_option Elab.async false
set_option linter.unusedVariables false
namespace Mine
section
variable {c : Cx} {A : Around} {nm : Nat → Str} {vs : List Nat} {env : Env}

theorem RepL.weakP {σ : Store} {P P' : Addr → Prop} {h : Heap} {ds : List D} {us : List Value} (x : RepL (nd σ P') h ds us) (hp : ∀ a, P a → P' a) : RepL (nd σ P) h ds us :=
  RepL.stay (fun b o hN ho _ => ⟨ho, hN.1, fun q => hN.2 (hp b q)⟩) _ _ x

/-- the list of a comprehension at its end -/
theorem comp_fin {σ₁ σ' : Store} {P : Addr → Prop} {s₁ s' : Shared} {Dl : Addr} {us : Array Value} {out : List D} {m : Bool} {Φ : D → Store → Prop} (hΦ : mkS m out σ' Φ) (hD : s₁.heap.get? Dl = none) (hPD : ¬ P Dl) (hl : s'.heap.PlainList Dl us)
    (hr : RepL (nd σ' fun a => P a ∨ a = Dl) s'.heap out us.toList) (ok : StoreOk σ' (fun a => P a ∨ a = Dl) s'.heap) (st : Step c.W noF σ₁ σ' s₁ s') :
    ∃ d σ'', Φ d σ'' ∧ Step c.W noF σ₁ σ'' s₁ s' ∧ StoreOk σ'' P s'.heap ∧ Rep (nd σ'' P) s'.heap d (.ref Dl) ∧ ∀ a, dom σ'' a → dom σ' a ∨ a = Dl := by
  unfold mkS at hΦ
  cases m with
  | false =>
    simp only [Bool.false_eq_true, if_false] at hΦ
    refine ⟨.list out, σ', hΦ, st, ok.weak fun a h => .inl h, ?_, fun a h => .inl h⟩
    simp only [Rep]
    exact ⟨Dl, us, rfl, ⟨fun hd => ok.free Dl hd (.inr rfl), hPD⟩, hl.isList, hr.weakP fun a h => .inl h⟩
  | true =>
    simp only [if_true] at hΦ
    obtain ⟨hf, ok2⟩ := adopt ok (fun b => Iff.rfl) hPD hl hr
    refine ⟨.obj Dl, _, hΦ Dl hf, ⟨st.same, st.keep, st.slot, st.alive, fun a ha => ?_⟩, ok2, by simp [Rep], fun a ha => dom_set ha⟩
    rcases dom_set ha with h | rfl
    · exact st.new a h
    · exact .inr hD

theorem comp_pre {σ : Store} {P : Addr → Prop} {s : Shared} {C : Addr} {h' : Heap} (hn : ∃ m, s.heap.Ns C m) (hs : Heap.SameBut C s.heap h') : Stay (nd σ P) (nd σ P) s.heap h' := fun a o hN ho hd => by
  refine ⟨hs.extBut a o (fun e => ?_) ho, hN⟩
  obtain ⟨m, o', es, ep, ho', hd', _⟩ := hn
  subst e
  rw [ho'] at ho; cases ho; obtain ⟨_, _, q⟩ := hd; rw [hd'] at q; cases q

theorem R_comp {sc : Scope} {x : Nat} {fr : List Nat} {xp pos : Pos} {iter elt : Expr} {ifs : List Expr} {vt : VT} {vts : List VT} {tr : PEnv → Store → (D → List D → Store → Prop) → Prop} (hs : ∀ v, foldedSetIterable iter env v = pure v)
    (co : CompOk nm vs env sc x fr) (eo : EnvOk nm vs env) (hiter : SndI c A nm vs env tr iter) (helt : ∀ C E₁ σa Pa sa, SndV (c.block E₁ (compEnvC sc (clOf env sc) C env) σa Pa sa) A nm (x :: fr) (compEnvC sc (clOf env sc) C env) vt elt) (hifs : ∀ C E₁ σa Pa sa, SndL (c.block E₁ (compEnvC sc (clOf env sc) C env) σa Pa sa) A nm (x :: fr) (compEnvC sc (clOf env sc) C env) vts ifs)
    {m : Bool} {ρ : PEnv} {σ : Store} {Φ : D → Store → Prop}
    (h : tr ρ σ fun d ds σ₁ => ds.length ≤ small ∧ compS (fun e σ' K => ifsT vts ((ρ.only fr).put x e) σ' fun b σ'' => (b = true → vt.v ((ρ.only fr).put x e) σ'' fun r σ₃ => K (some r) σ₃) ∧ (b = false → K Option.none σ'')) (keepS d ds) ds σ₁ [] fun out σ₂ => mkS m out σ₂ Φ) :
    WPv c A nm vs env ρ σ (eval (.ListComp elt [⟨.Name (nm x) xp, iter, ifs, 0⟩] sc pos) env) Φ := by
  intro P s g Q hQ
  rw [eval_ListComp]
  refine wpAny_comprehension_free (use := Option.none) rfl hs (closureFor_eq (co.cellsOf eo)) co.kind (fun y hy hl => by obtain ⟨n, k⟩ := y; simp only at hl; subst hl; exact lookup_nodup co.nodup hy) ?_
  refine hiter ρ σ _ h P s g _ fun xv d ds σ₁ s₁ hΦ st₁ ok₁ itv => ?_
  obtain ⟨v, hr, hk, hit⟩ := itv
  have g₁ := g.next st₁ ok₁
  refine hit _ _ fun I ok It s₂ hI kp T it hok => ?_
  refine comp_block T hok co eo helt hifs g₁ hI kp it hr hk hΦ.1 hΦ.2 (RR := fun acc C => compPost c.M A c.E Option.none Q acc C) ?_
  intro Dl C s' us out σ' hD hC hDC hΨ hdC hn hl hrl ok' st'
  obtain ⟨mm, hnn⟩ := hn
  refine ⟨mm, hnn, fun h'' hs'' => ?_⟩
  have k'' : ∀ b o, b ≠ C → s'.heap.get? b = some o → h''.get? b = some o := fun b o hb e => hs''.extBut b o hb e
  have stay'' : Stay (nd σ' fun a => P a ∨ a = Dl) (nd σ' fun a => P a ∨ a = Dl) s'.heap h'' := comp_pre ⟨mm, hnn⟩ hs''
  have ok'' : StoreOk σ' (fun a => P a ∨ a = Dl) h'' := ok'.fr stay'' hdC k''
  have hl'' : h''.PlainList Dl us := hl.at fun o e => k'' Dl o hDC e
  obtain ⟨e, σ'', q1, q2, q3, q4, _⟩ := comp_fin (s' := { s' with heap := h'' }) hΨ hD (fun hp => by obtain ⟨o, ho⟩ := g₁.prot _ hp; rw [hD] at ho; cases ho) hl'' (RepL.stay stay'' _ _ hrl) ok'' (st'.but (tk := s'.toks) hC k'')
  exact hQ _ e σ'' _ q1 (st₁.trans q2) q3 q4

/-- a comprehension that is stored at once -/
theorem R_assign_comp {sc : Scope} {x y : Nat} {fr : List Nat} {xp yp pos spos : Pos} {iter elt : Expr} {ifs : List Expr} {vt : VT} {vts : List VT} {tr : PEnv → Store → (D → List D → Store → Prop) → Prop} (hs : ∀ v, foldedSetIterable iter env v = pure v)
    (hsw : swapsWith (.ListComp elt [⟨.Name (nm x) xp, iter, ifs, 0⟩] sc pos) (some (.Name (nm y) yp)) spos.line env = pure true) (hy : y ∈ vs) (hff : ∀ a, FrA env a → c.F₀ a) (hcu : c.cur = none)
    (co : CompOk nm vs env sc x fr) (eo : EnvOk nm vs env) (hiter : SndI c A nm vs env tr iter) (helt : ∀ C E₁ σa Pa sa, SndV (c.block E₁ (compEnvC sc (clOf env sc) C env) σa Pa sa) A nm (x :: fr) (compEnvC sc (clOf env sc) C env) vt elt) (hifs : ∀ C E₁ σa Pa sa, SndL (c.block E₁ (compEnvC sc (clOf env sc) C env) σa Pa sa) A nm (x :: fr) (compEnvC sc (clOf env sc) C env) vts ifs)
    {m : Bool} {ρ : PEnv} {σ : Store} {Φ : Res → Prop}
    (h : tr ρ σ fun d ds σ₁ => ds.length ≤ small ∧ compS (fun e σ' K => ifsT vts ((ρ.only fr).put x e) σ' fun b σ'' => (b = true → vt.v ((ρ.only fr).put x e) σ'' fun r σ₃ => K (some r) σ₃) ∧ (b = false → K Option.none σ'')) (keepS d ds) ds σ₁ [] fun out σ₂ => mkS m out σ₂ fun d σ' => Φ (.next (ρ.put y d) σ')) :
    WPs c A nm vs env ρ σ (exec (.Assign [.Name (nm y) yp] (.ListComp elt [⟨.Name (nm x) xp, iter, ifs, 0⟩] sc pos) spos) env) Φ := by
  intro P s g Q hQ
  rw [exec_Assign_Name_used _ _ _ _ hsw]
  refine wpAny_bind (wpAny_standAt (wpAny_bind ?_))
  show wpAny _ A (do let _ ← comprehension (.ListComp elt [⟨.Name (nm x) xp, iter, ifs, 0⟩] sc pos) sc env _ (newList []) false (eval iter env) (some (assign (.Name (nm y) yp) env))) _ _ s
  refine wpAny_bind (wpAny_mono (wpAny_comprehension_free (use := some (assign (.Name (nm y) yp) env)) (Q := fun _ s' => Q .next s') rfl hs (closureFor_eq (co.cellsOf eo)) co.kind (fun y hy hl => by obtain ⟨n, k⟩ := y; simp only at hl; subst hl; exact lookup_nodup co.nodup hy) ?_) (fun _ s' hq => wpAny_pure (wpAny_pure hq)) fun _ _ e => e)
  refine hiter ρ σ _ h P s g _ fun xv d ds σ₁ s₁ hΦ st₁ ok₁ itv => ?_
  obtain ⟨v, hr, hk, hit⟩ := itv
  have g₁ := g.next st₁ ok₁
  refine hit _ _ fun I ok It s₂ hI kp T it hok => ?_
  refine comp_block T hok co eo helt hifs g₁ hI kp it hr hk hΦ.1 hΦ.2 (RR := fun acc C => compPost c.M A c.E (some (assign (.Name (nm y) yp) env)) (fun _ s' => Q .next s') acc C) ?_
  intro Dl C s' us out σ' hD hC hDC hΨ hdC hn hl hrl ok' st'
  obtain ⟨e, σ'', q1, q2, q3, q4, q5⟩ := comp_fin hΨ hD (fun hp => by obtain ⟨o, ho⟩ := g₁.prot _ hp; rw [hD] at ho; cases ho) hl hrl ok' st'
  have g' := g₁.next q2 q3
  have nfC : ¬ FrA env C := fun hf => by obtain ⟨o, ho, _⟩ := g₁.fr_alive hf; rw [hC] at ho; cases ho
  have ndC : ¬ dom σ'' C := fun hd => (q5 C hd).elim hdC (fun q => hDC q.symm)
  show wpAny _ A (assign (.Name (nm y) yp) env (.ref Dl)) _ _ _
  refine wpAny_assign_Name (store_sound eo hy hff (fun C q => by rw [hcu] at q; cases q) g' q4 fun s₃ st₃ g₃ => ?_)
  obtain ⟨mm, hnn⟩ := hn
  have hPC : ¬ P C := fun hp => by obtain ⟨o, ho⟩ := g₁.prot _ hp; rw [hC] at ho; cases ho
  have hWC : ¬ c.W C := fun hw => hPC (g₁.wp C hw)
  have h0C : c.s₀.heap.get? C = none := by
    cases e : c.s₀.heap.get? C with
    | none => rfl
    | some o => obtain ⟨o', e'⟩ := g₁.since.alive C o e; rw [hC] at e'; cases e'
  have hnC : s₃.heap.Ns C mm := hnn.at' fun o e => st₃.keep C o e ndC nfC hWC
  refine ⟨mm, hnC, fun h'' hs'' => ?_⟩
  have k'' : ∀ b o, b ≠ C → s₃.heap.get? b = some o → h''.get? b = some o := fun b o hb e => hs''.extBut b o hb e
  have hbC : c.b.get? C = none := by
    cases e : c.b.get? C with
    | none => rfl
    | some o => rw [g₁.base C o e] at hC; cases hC
  obtain ⟨g₄, _⟩ := g₃.change hcu h0C hWC hbC nfC ndC (fun o items n _ ho hd => by obtain ⟨o', es, ep, ho', hd', _⟩ := hnC; rw [ho'] at ho; cases ho; rw [hd'] at hd; cases hd) (tk := s₃.toks) (fun q => (hPC q).elim) k''
  have st04 : Step c.W (FrA env) σ σ'' s { s₃ with heap := h'' } := by
    have a1 : Step c.W (FrA env) σ₁ σ'' s₁ s₃ := (q2.weak (fun _ h => h.elim)).trans st₃
    exact (st₁.weak (fun _ h => h.elim)).trans (a1.but (tk := s₃.toks) hC k'')
  exact hQ .next _ (.next (ρ.put y e) σ'') q1 st04 ⟨rfl, g₄⟩
end
end Mine
end
section
open PySem PyProof.Rows
set_option Elab.async false
set_option linter.unusedVariables false
namespace Mine

/-- a function of the text keeps its spec at every place with room n -/
structure Valid (c : Bx) (n : Nat) (f : Addr) (S : Spec) : Prop where
  fn : ∃ o fd, c.b.get? f = some o ∧ o.data = .func fd
  call : ∀ A, Room n A → ∀ l, A.frames = some l → ∀ ds σ Φ X, S ds σ Φ X → ∀ (P : Addr → Prop) (s : Shared) us, (∀ a o, c.b.get? a = some o → s.heap.get? a = some o) → StoreOk σ P s.heap → (∀ a, dom σ a → c.b.get? a = Option.none) → (∀ a, P a → ∃ o, s.heap.get? a = some o) →
    (∀ a, WL l a → P a) → (∀ a, WL l a → c.b.get? a = Option.none) → Frs s.heap l →
    RepL (nd σ P) s.heap ds us → ∀ (Q : Value → Shared → Prop) (E : Value → Shared → Prop), (∀ v d σ' s', Φ d σ' → Step (WL l) noF σ σ' s s' → StoreOk σ' P s'.heap → Rep (nd σ' P) s'.heap d v → Q v s') →
    (∀ e C σ' s', X C σ' → Step (WL l) noF σ σ' s s' → StoreOk σ' P s'.heap → Frs s'.heap l → Fly l s.heap e C s'.heap → E (.ref e) s') →
    codeAny c.M A (.call (.ref f) ⟨us, []⟩) (fun r s' => match r with | .ok (.ret v) => Q v s' | .ok _ => False | .error e => E e s') s
theorem Valid.mono {c : Bx} {n m : Nat} {f : Addr} {S : Spec} (V : Valid c n f S) (h : n ≤ m) : Valid c m f S := ⟨V.fn, fun A hA => V.call A (hA.le h)⟩

/-- the tables that a text's check needs -/
structure Tb where
  N : Nms
  gv : Nat → Value
  gl : List Nat
  fns : List Nat
  attrs : List (Nat × Str) := []
  sets : List (Nat × Str) := []
  meths : List (Nat × Str × Nat) := []
  news : List (Nat × Nat) := []
  excs : List (Nat × Nat) := []
  subs : List (Nat × List Nat × List Nat) := []
  q : Bool := true
  st : Bool := true
  cv : Option Nat := Option.none

/-- what is known of global names, of attributes, methods and classes -/
structure GT (c : Bx) (n : Nat) (t : Tb) (S : Nat → Spec) : Prop where
  glob : ∀ g ∈ t.gl, c.glob (t.N.gn g) = some (t.gv g)
  fn : ∀ g ∈ t.fns, ∃ f, t.gv g = .ref f ∧ Valid c n f (S g)
  attr : ∀ x ∈ t.attrs, AttrOk c.K x.1 x.2
  set : ∀ x ∈ t.sets, SetOk c.K x.1 x.2
  meth : ∀ x ∈ t.meths, ∃ f, MethOk c.K x.1 x.2.1 f ∧ Valid c n f (S x.2.2)
  new : ∀ x ∈ t.news, ∃ f m, m + 1 ≤ n ∧ NewOk c.K x.1 f ∧ Valid c m f (S x.2)

noncomputable def Tb.gOk (t : Tb) (names : List (Str × NameKind)) (g : Nat) : Bool := names.contains (t.N.gn g, .globalImplicit) && !(t.N.gn g == ("__debug__" : Str)) && t.gl.contains g

/-- a global name, where nothing is being handled -/
noncomputable def Tb.gOkQ (t : Tb) (names : List (Str × NameKind)) (g : Nat) : Bool := t.q && t.gOk names g

noncomputable def compChk (t : Tb) (names : List (Str × NameKind)) (vs : List Nat) (sc : Scope) (x : Nat) (fr : List Nat) : Bool :=
  sc.kind == .function && decide (sc.names.map (·.1)).Nodup && sc.names.contains (t.N.nm x, .local) &&
  fr.all (fun i => vs.contains i && sc.names.contains (t.N.nm i, .free) && names.contains (t.N.nm i, .cell)) &&
  sc.names.all (fun y => y.2 != .free || fr.any fun i => t.N.nm i == y.1) && sc.names.all (fun y => y.2 != .cell) && !(t.N.nm x == ("__debug__" : Str))

/-- what may stand ahead of a dot -/
noncomputable def baseOk : PE → Bool
  | .call _ _ [] _ => false
  | .bi _ _ _ _ [] _ => false
  | .new _ _ _ _ [] _ => false
  | _ => true

mutual
noncomputable def wf (t : Tb) (names : List (Str × NameKind)) (vs : List Nat) : PE → Bool
  | .var i _ => vs.contains i
  | .cint _ _ => true
  | .cnone _ => true
  | .cbool _ _ => true
  | .cstr _ _ => true
  | .bin _ l r _ => wf t names vs l && wf t names vs r
  | .not e _ => wf t names vs e
  | .bop _ es _ => wfL t names vs es
  | .cmp _ l r _ => wf t names vs l && wf t names vs r
  | .cmp2 _ _ a b c _ => wf t names vs a && wf t names vs b && wf t names vs c
  | .call g _ args _ => t.gOkQ names g && t.fns.contains g && !args.isEmpty && wfL t names vs args
  | .bi b _ g _ args _ => t.gOkQ names g && t.gv g == b.val && !args.isEmpty && wfL t names vs args
  | .isi e ty g _ gt _ _ => t.gOk names g && t.gv g == .builtin "isinstance" && t.gOk names gt && t.gv gt == .type ty.name && wf t names vs e
  | .isi2 e g _ g₁ _ g₂ _ _ _ _ => t.gOk names g && t.gv g == .builtin "isinstance" && (t.gOk names g₁ && t.gv g₁ == .type "list") && (t.gOk names g₂ && t.gv g₂ == .type "tuple") && wf t names vs e
  | .isx i _ cs os g _ gt _ _ => t.gOk names g && t.gv g == .builtin "isinstance" && t.gOk names gt && t.gv gt == .type "ValueError" && t.subs.contains (gt, cs, os) && os.isEmpty && t.cv == some i
  | .sub o i _ => wf t names vs o && wf t names vs i
  | .slc _ o lo hi _ _ => wf t names vs o && wfO t names vs lo && wfO t names vs hi
  | .list _ es _ => wfL t names vs es
  | .tup es _ _ => wfL t names vs es
  | .app o ap e p => (ap.endLine == p.line) && baseOk o && wf t names vs o && wf t names vs e
  | .gint g i _ => t.gOk names g && (match t.gv g with | .int j _ => j == i | _ => false)
  | .attr C o name _ => baseOk o && t.attrs.contains (C, name) && wf t names vs o
  | .meth C g o name ap args p => (t.q && (ap.endLine == p.line)) && baseOk o && t.meths.contains (C, name, g) && Nat.ble args.length 5 && wf t names vs o && wfL t names vs args
  | .new C gi g _ args _ => t.gOkQ names g && t.gv g == .ref C && t.news.contains (C, gi) && wfL t names vs args
  | .lm _ o ap args p => (ap.endLine == p.line) && baseOk o && Nat.ble args.length 5 && wf t names vs o && wfL t names vs args
  | .dct _ => true
  | .subd o i _ => wf t names vs o && wf t names vs i
  | .skeys _ g _ o ap p' _ => t.gOkQ names g && t.gv g == .builtin "sorted" && (ap.endLine == p'.line) && baseOk o && wf t names vs o
  | .comp _ elt x _ it ifs sc fr _ => (t.q && wfI t names vs it) && compChk t names vs sc x fr && wf t sc.names (x :: fr) elt && wfL t sc.names (x :: fr) ifs
noncomputable def wfL (t : Tb) (names : List (Str × NameKind)) (vs : List Nat) : List PE → Bool
  | [] => true
  | e :: r => wf t names vs e && wfL t names vs r
noncomputable def wfO (t : Tb) (names : List (Str × NameKind)) (vs : List Nat) : Option PE → Bool
  | Option.none => true
  | some e => wf t names vs e
noncomputable def wfI (t : Tb) (names : List (Str × NameKind)) (vs : List Nat) : IT → Bool
  | .of e => t.q && wf t names vs e
  | .range g _ e _ => t.gOkQ names g && t.gv g == .type "range" && wf t names vs e
end
noncomputable def isComp : PE → Bool
  | .comp .. => true
  | _ => false

mutual
noncomputable def wfS (t : Tb) (names : List (Str × NameKind)) (vs : List Nat) : PS → Bool
  | .assign x _ e _ => (t.st && vs.contains x && !(t.cv == some x)) && wf t names vs e
  | .expr e _ => !isComp e && wf t names vs e
  | .ite e b o _ => wf t names vs e && wfSs t names vs b && wfSs t names vs o
  | .loop x _ it b _ => (t.q && t.st && vs.contains x) && wfI t names vs it && wfSs t names vs b
  | .ret e _ => wf t names vs e
  | .sattr C o name _ e _ => !isComp e && t.sets.contains (C, name) && wf t names vs o && wf t names vs e
  | .ssub o i _ e _ => !isComp e && wf t names vs o && wf t names vs i && wf t names vs e
  | .raise C g _ _ _ _ _ => t.gOkQ names g && t.excs.contains (g, C)
  | .try b hs _ => t.q && !hs.isEmpty && wfSs { t with st := false } names vs b && wfHs t names vs hs
noncomputable def wfHs (t : Tb) (names : List (Str × NameKind)) (vs : List Nat) : List HD → Bool
  | [] => true
  | .mk cs os g _ b _ :: r => t.gOk names g && t.subs.contains (g, cs, os) && !b.isEmpty && wfSs { t with q := false, cv := Option.none } names vs b && wfHs t names vs r
  | .as cs os g _ x e _ _ :: r => t.gOk names g && t.subs.contains (g, cs, os) && vs.contains x && names.contains (t.N.nm x, .local) && t.st && wf { t with q := false, cv := some x } names vs e && wfHs t names vs r
noncomputable def wfSs (t : Tb) (names : List (Str × NameKind)) (vs : List Nat) : List PS → Bool
  | [] => true
  | s :: r => wfS t names vs s && wfSs t names vs r
end

/-- the names' table of a frame -/
structure Nm (env : Env) (names : List (Str × NameKind)) : Prop where
  glob : ∀ n, (n, NameKind.globalImplicit) ∈ names → env.kindOf n = some .globalImplicit
  cell : ∀ n, (n, NameKind.cell) ∈ names → env.kindOf n = some .cell
  loc : ∀ n, (n, NameKind.local) ∈ names → env.kindOf n = some .local

theorem compChk_ok {t : Tb} {names : List (Str × NameKind)} {vs : List Nat} {sc : Scope} {x : Nat} {fr : List Nat} {env : Env} (h : compChk t names vs sc x fr = true) (hn : Nm env names) : CompOk t.N.nm vs env sc x fr := by
  unfold compChk at h
  simp only [Bool.and_eq_true, Bool.not_eq_true', decide_eq_true_eq, List.all_eq_true] at h
  obtain ⟨⟨⟨⟨⟨⟨h1, h2⟩, h3⟩, h4⟩, h5⟩, h6⟩, h7⟩ := h
  refine ⟨by simpa using h1, h2, by simpa using h3, fun i hi => ?_, fun y hy hf => ?_, fun y hy => by simpa using h6 y hy, h7⟩
  · have := h4 i hi
    exact ⟨by simpa using this.1.1, by simpa using this.1.2, hn.cell _ (by simpa using this.2)⟩
  · have := h5 y hy
    rw [hf] at this
    simp at this
    obtain ⟨i, hi, e⟩ := this
    exact ⟨i, hi, e⟩

theorem nm_block {env : Env} {sc : Scope} {nm : Nat → Str} {vs : List Nat} {x : Nat} {fr : List Nat} (co : CompOk nm vs env sc x fr) (cl : List (Str × Addr)) (C : Addr) : Nm (compEnvC sc cl C env) sc.names where
  glob := fun n hm => by
    show (relabel sc env).names.lookup n = _
    rw [relabel_lookup co.nodup hm]; rfl
  cell := fun n hm => absurd rfl (co.nocell _ hm)
  loc := fun n hm => by
    show (relabel sc env).names.lookup n = _
    rw [relabel_lookup co.nodup hm]; rfl

/-! the embedding makes no set display, no slice, no star -/
theorem embL_nil (N : Nms) : embL N [] = [] := rfl
theorem embL_cons (N : Nms) (e : PE) (r : List PE) : embL N (e :: r) = emb N e :: embL N r := rfl
theorem emb_marks (N : Nms) (op : CmpOp) (e : PE) : behindInMarks op (emb N e) = false := by cases e <;> rfl
theorem emb_sub (N : Nms) (e : PE) (x y : Value) : subscripted (emb N e) false x y = operate [x, y] (getItem x y) := by cases e <;> rfl
theorem emb_star (N : Nms) (e : PE) (rest : List Expr) (env : Env) : starEach (emb N e :: rest) env = (false, eval (emb N e) env) :: starEach rest env := by cases e <;> rfl
theorem emb_fold (N : Nms) (e : PE) (env : Env) (v : Value) : foldedSetIterable (emb N e) env v = pure v := by cases e <;> rfl
theorem embI_fold (N : Nms) (it : IT) (env : Env) (v : Value) : foldedSetIterable (embI N it) env v = pure v := by
  cases it with
  | of e => exact emb_fold N e env v
  | _ => rfl
theorem emb_base (N : Nms) (e : PE) (a : Str) (env : Env) (x : Sem Value) (h : baseOk e = true) : attributeBase (emb N e) a env x = x := by
  cases e with
  | call g gp args p => cases args <;> first | rfl | cases h
  | bi b m g gp args p => cases args <;> first | rfl | cases h
  | new C gi g gp args p => cases args <;> first | rfl | cases h
  | _ => rfl
theorem plain_star {env : Env} {pos : Pos} : ∀ (N : Nms) (es : List PE), (backTo pos (starEach (embL N es) env)).any (·.1) = false
  | N, [] => rfl
  | N, e :: r => by
    show (backTo pos (starEach (emb N e :: embL N r) env)).any (·.1) = false
    rw [emb_star]
    exact plain_star (env := env) (pos := pos) N r
end Mine
end
section
open PySem PyProof.Rows
set_option Elab.async false
set_option linter.unusedVariables false
namespace Mine
section
variable {c : Cx} {A : Around} {nm : Nat → Str} {vs : List Nat} {env : Env}

theorem units_ok {n : Nat} (hA : Room n A) : A.units + 64 < cLine := by have := hA.2.2; unfold cLine; omega

theorem sndT_of {v : ETr} {e : Expr} (hv : SndV c A nm vs env (.of v) e) (he : ∀ whole, isTrue e env whole = (do let v ← whole; standAt e.pos; holding [v] (truthy v))) : SndT c A nm vs env (.of v) e := by
  intro ρ σ Φ h P s g Q hQ
  refine isTrue_plain ?_ (he _)
  refine hv ρ σ _ h P s g _ fun u d σ' s' hd st ok hr => ?_
  exact truthS_sound hd hr fun b hb => hQ b σ' s' hb st ok

theorem L_bin {x y : VT} {l r : Expr} {op : Operator} {p : Pos} (hx : SndV c A nm vs env x l) (hy : SndV c A nm vs env y r) :
    SndV c A nm vs env (.of fun ρ σ Φ => x.v ρ σ fun a σ₁ => y.v ρ σ₁ fun b σ₂ => binS op a b σ₂ Φ) (.BinOp l op r p) := by
  intro ρ σ Φ h P s g Q hQ
  refine wpAny_BinOp (R_two g (hx ρ σ _ h) (fun d σ' hd => hy ρ σ' _ hd) fun v₁ v₂ d₁ d₂ σ' s' hb st g' r₁ r₂ => ?_)
  exact binS_sound g' hb r₁ r₂ fun v d σ'' s'' a b e f => hQ v d σ'' s'' a (st.trans b) e f

theorem L_cmp {x y : VT} {l r : Expr} {op : CmpOp} {p : Pos} (hu : A.units + 64 < cLine) (hm : behindInMarks op r = false) (hx : SndV c A nm vs env x l) (hy : SndV c A nm vs env y r) :
    SndV c A nm vs env (.of fun ρ σ Φ => x.v ρ σ fun a σ₁ => y.v ρ σ₁ fun b σ₂ => cmpS op a b σ₂ Φ) (.Compare l [op] [r] p) ∧
    SndT c A nm vs env (.of fun ρ σ Φ => x.v ρ σ fun a σ₁ => y.v ρ σ₁ fun b σ₂ => cmpS op a b σ₂ Φ) (.Compare l [op] [r] p) := by
  constructor
  · intro ρ σ Φ h P s g Q hQ
    refine wpAny_Compare1 (R_two g (hx ρ σ _ h) (fun d σ' hd => hy ρ σ' _ hd) fun v₁ v₂ d₁ d₂ σ' s' hb st g' r₁ r₂ => ?_) hm
    exact cmpS_sound hu g' hb r₁ r₂ fun v d σ'' s'' a b e f => hQ v d σ'' s'' a (st.trans b) e f
  · intro ρ σ Φ h P s g Q hQ
    refine wpAny_isTrue_Compare1 (R_two g (hx ρ σ _ h) (fun d σ' hd => hy ρ σ' _ hd) fun v₁ v₂ d₁ d₂ σ' s' hb st g' r₁ r₂ => ?_) hm
    exact cmpS_sound hu g' hb r₁ r₂ fun v d σ'' s'' a b e f => truthS_sound a f fun t ht => hQ t σ'' s'' ht (st.trans b) e

theorem L_cmp2 {x y z : VT} {l m r : Expr} {o₁ o₂ : CmpOp} {p : Pos} (hu : A.units + 64 < cLine) (hm : behindInMarks o₂ r = false) (hx : SndV c A nm vs env x l) (hy : SndV c A nm vs env y m) (hz : SndV c A nm vs env z r) :
    SndV c A nm vs env (.of fun ρ σ Φ => x.v ρ σ fun a σ₁ => y.v ρ σ₁ fun b σ₂ => cmpS o₁ a b σ₂ fun d σ₃ => truthS d σ₃ fun t σ₄ => (t = false → Φ (.bool false) σ₄) ∧ (t = true → z.v ρ σ₄ fun w σ₅ => cmpS o₂ b w σ₅ Φ)) (.Compare l [o₁, o₂] [m, r] p) ∧
    SndT c A nm vs env (.of fun ρ σ Φ => x.v ρ σ fun a σ₁ => y.v ρ σ₁ fun b σ₂ => cmpS o₁ a b σ₂ fun d σ₃ => truthS d σ₃ fun t σ₄ => (t = false → Φ (.bool false) σ₄) ∧ (t = true → z.v ρ σ₄ fun w σ₅ => cmpS o₂ b w σ₅ Φ)) (.Compare l [o₁, o₂] [m, r] p) := by
  constructor
  · intro ρ σ Φ h P s g Q hQ
    refine Compare_chain ?_ hm
    refine hx ρ σ _ h P s g _ fun v₁ d₁ σ₁ s₁ h₁ st₁ ok₁ r₁ => ?_
    have g₁ := g.next st₁ ok₁
    refine chain_link (hy ρ σ₁ _ h₁ P s₁ g₁ _ fun v₂ d₂ σ₂ s₂ h₂ st₂ ok₂ r₂ => ?_)
    have g₂ := g₁.next st₂ ok₂
    refine cmpS_sound hu g₂ h₂ (Rep.stay (st₂.stay g.wp) _ _ r₁) r₂ fun v₃ d₃ σ₃ s₃ h₃ st₃ ok₃ r₃ => ?_
    have g₃ := g₂.next st₃ ok₃
    cases d₃ <;> simp only [truthS] at h₃
    rename_i t
    simp only [Rep] at r₃
    subst r₃
    refine wpAny_truthy_bool ?_
    cases t with
    | false => simp only [Bool.false_eq_true, if_false]; exact hQ _ (.bool false) σ₃ s₃ (h₃.1 rfl) ((st₁.trans st₂).trans st₃) ok₃ rep_bool
    | true =>
      simp only [if_true]
      refine chain_last (hz ρ σ₃ _ (h₃.2 rfl) P s₃ g₃ _ fun v₄ d₄ σ₄ s₄ h₄ st₄ ok₄ r₄ => ?_)
      exact cmpS_sound hu (g₃.next st₄ ok₄) h₄ (Rep.stay (st₄.stay g.wp) _ _ (Rep.stay (st₃.stay g.wp) _ _ r₂)) r₄ fun v d σ'' s'' a b e f => hQ v d σ'' s'' a ((((st₁.trans st₂).trans st₃).trans st₄).trans b) e f
  · intro ρ σ Φ h P s g Q hQ
    refine isTrue_chain ?_ hm
    refine hx ρ σ _ h P s g _ fun v₁ d₁ σ₁ s₁ h₁ st₁ ok₁ r₁ => ?_
    have g₁ := g.next st₁ ok₁
    refine test_link (hy ρ σ₁ _ h₁ P s₁ g₁ _ fun v₂ d₂ σ₂ s₂ h₂ st₂ ok₂ r₂ => ?_)
    have g₂ := g₁.next st₂ ok₂
    refine cmpS_sound hu g₂ h₂ (Rep.stay (st₂.stay g.wp) _ _ r₁) r₂ fun v₃ d₃ σ₃ s₃ h₃ st₃ ok₃ r₃ => ?_
    have g₃ := g₂.next st₃ ok₃
    cases d₃ <;> simp only [truthS] at h₃
    rename_i t
    simp only [Rep] at r₃
    subst r₃
    refine wpAny_truthy_bool ?_
    cases t with
    | false => simp only [Bool.false_eq_true, if_false]; exact hQ false σ₃ s₃ (h₃.1 rfl) ((st₁.trans st₂).trans st₃) ok₃
    | true =>
      simp only [if_true]
      refine test_last (hz ρ σ₃ _ (h₃.2 rfl) P s₃ g₃ _ fun v₄ d₄ σ₄ s₄ h₄ st₄ ok₄ r₄ => ?_)
      exact cmpS_sound hu (g₃.next st₄ ok₄) h₄ (Rep.stay (st₄.stay g.wp) _ _ (Rep.stay (st₃.stay g.wp) _ _ r₂)) r₄ fun v d σ'' s'' a b e f => truthS_sound a f fun t ht => hQ t σ'' s'' ht ((((st₁.trans st₂).trans st₃).trans st₄).trans b) e

theorem L_not {x : VT} {e : Expr} {p : Pos} (hx : SndV c A nm vs env x e) (ht : SndT c A nm vs env x e) :
    SndV c A nm vs env ⟨fun ρ σ Φ => x.v ρ σ fun d σ' => truthS d σ' fun b σ'' => Φ (.bool (!b)) σ'', fun ρ σ Φ => x.t ρ σ fun b σ' => Φ (!b) σ'⟩ (.UnaryOp .Not e p) ∧
    SndT c A nm vs env ⟨fun ρ σ Φ => x.v ρ σ fun d σ' => truthS d σ' fun b σ'' => Φ (.bool (!b)) σ'', fun ρ σ Φ => x.t ρ σ fun b σ' => Φ (!b) σ'⟩ (.UnaryOp .Not e p) := by
  constructor
  · intro ρ σ Φ h P s g Q hQ
    refine UnaryOp_ (hx ρ σ _ h P s g _ fun v d σ' s' hd st ok hr => not_of ?_)
    exact truthS_sound hd hr fun b hb => hQ _ (.bool (!b)) σ' s' hb st ok rep_bool
  · intro ρ σ Φ h P s g Q hQ
    exact isTrue_not (ht ρ σ _ h P s g _ fun b σ' s' hb st ok => hQ (!b) σ' s' hb st ok)

theorem L_bopT {op : BoolOp} {p : Pos} {whole : Sem Value} {xs : List VT} {es : List Expr} (h : SndL c A nm vs env xs es) : ∀ ρ σ Φ, bopT op xs ρ σ Φ → WPb c A nm vs env ρ σ (isTrue (.BoolOp op es p) env whole) Φ := by
  induction h with
  | nil =>
    intro ρ σ Φ h P s g Q hQ
    cases op
    · exact isTrue_and_nil (hQ true σ s h (Step.refl _ _ _ _) g.st)
    · exact isTrue_or_nil (hQ false σ s h (Step.refl _ _ _ _) g.st)
  | cons hv ht _ ih =>
    intro ρ σ Φ h P s g Q hQ
    cases op
    · refine isTrue_and (ht ρ σ _ h P s g _ fun b σ₁ s₁ hb st₁ ok₁ => ?_)
      cases b with
      | false => simp only [Bool.false_eq_true, if_false]; exact hQ false σ₁ s₁ (hb.1 rfl) st₁ ok₁
      | true => simp only [if_true]; exact ih ρ σ₁ Φ (hb.2 rfl) P s₁ (g.next st₁ ok₁) Q fun b' σ₂ s₂ h₂ st₂ ok₂ => hQ b' σ₂ s₂ h₂ (st₁.trans st₂) ok₂
    · refine isTrue_or (ht ρ σ _ h P s g _ fun b σ₁ s₁ hb st₁ ok₁ => ?_)
      cases b with
      | true => simp only [if_true]; exact hQ true σ₁ s₁ (hb.1 rfl) st₁ ok₁
      | false => simp only [Bool.false_eq_true, if_false]; exact ih ρ σ₁ Φ (hb.2 rfl) P s₁ (g.next st₁ ok₁) Q fun b' σ₂ s₂ h₂ st₂ ok₂ => hQ b' σ₂ s₂ h₂ (st₁.trans st₂) ok₂

theorem L_bopV {op : BoolOp} {p : Pos} {xs : List VT} {es : List Expr} (h : SndL c A nm vs env xs es) : ∀ ρ σ Φ, bopV op xs ρ σ Φ → WPv c A nm vs env ρ σ (eval (.BoolOp op es p) env) Φ := by
  induction h with
  | nil => intro ρ σ Φ h; exact h.elim
  | cons hv ht tl ih =>
    intro ρ σ Φ h P s g Q hQ
    cases tl with
    | nil => exact BoolOp_one (hv ρ σ _ h P s g _ hQ)
    | cons hv' ht' tl' =>
      cases op
      · refine BoolOp_and (hv ρ σ _ h P s g _ fun v d σ₁ s₁ hd st₁ ok₁ hr => truthS_sound hd hr fun b hb => ?_)
        cases b with
        | false => simp only [Bool.false_eq_true, if_false]; exact hQ v d σ₁ s₁ (hb.1 rfl) st₁ ok₁ hr
        | true => simp only [if_true]; exact ih ρ σ₁ Φ (hb.2 rfl) P s₁ (g.next st₁ ok₁) Q fun v' d' σ₂ s₂ h₂ st₂ ok₂ r₂ => hQ v' d' σ₂ s₂ h₂ (st₁.trans st₂) ok₂ r₂
      · refine BoolOp_or (hv ρ σ _ h P s g _ fun v d σ₁ s₁ hd st₁ ok₁ hr => truthS_sound hd hr fun b hb => ?_)
        cases b with
        | true => simp only [if_true]; exact hQ v d σ₁ s₁ (hb.1 rfl) st₁ ok₁ hr
        | false => simp only [Bool.false_eq_true, if_false]; exact ih ρ σ₁ Φ (hb.2 rfl) P s₁ (g.next st₁ ok₁) Q fun v' d' σ₂ s₂ h₂ st₂ ok₂ r₂ => hQ v' d' σ₂ s₂ h₂ (st₁.trans st₂) ok₂ r₂

theorem L_args {N : Nms} {pos : Pos} : ∀ (es : List PE) (xs : List VT), SndL c A nm vs env xs (embL N es) → ∀ ρ σ Φ, argsV xs ρ σ Φ → WPl c A nm vs env ρ σ (spliced (backTo pos (starEach (embL N es) env))) Φ
  | [], xs, h, ρ, σ, Φ, ha => by
    simp only [embL_nil, embL_cons] at h ⊢
    cases h
    intro P s g Q hQ
    exact args_nil (hQ [] [] σ s ha (Step.refl _ _ _ _) g.st .nil)
  | e :: r, xs, h, ρ, σ, Φ, ha => by
    simp only [embL_nil, embL_cons] at h ⊢
    cases h with
    | cons hv _ tl =>
      intro P s g Q hQ
      simp only [argsV] at ha
      refine args_cons (hv ρ σ _ ha P s g _ fun v d σ₁ s₁ hd st₁ ok₁ r₁ => ?_) (emb_star N e _ env)
      exact L_args r _ tl ρ σ₁ _ hd P s₁ (g.next st₁ ok₁) _ fun us ds σ₂ s₂ h₂ st₂ ok₂ r₂ => hQ (v :: us) (d :: ds) σ₂ s₂ h₂ (st₁.trans st₂) ok₂ (.cons (Rep.stay (st₂.stay g.wp) _ _ r₁) r₂)

theorem L_sub {x y : VT} {o i : Expr} {p : Pos} (hi : ∀ a b, subscripted i false a b = operate [a, b] (getItem a b)) (hx : SndV c A nm vs env x o) (hy : SndV c A nm vs env y i) :
    SndV c A nm vs env (.of fun ρ σ Φ => x.v ρ σ fun a σ₁ => y.v ρ σ₁ fun b σ₂ => subS a b σ₂ Φ) (.Subscript o i p) := by
  intro ρ σ Φ h P s g Q hQ
  refine Subscript_ (R_two g (hx ρ σ _ h) (fun d σ' hd => hy ρ σ' _ hd) fun v₁ v₂ d₁ d₂ σ' s' hb st g' r₁ r₂ => ?_)
  exact subS_sound hi g' hb r₁ r₂ fun v d σ'' s'' a b e f => hQ v d σ'' s'' a (st.trans b) e f

theorem L_list {N : Nms} {m : Bool} {es : List PE} {xs : List VT} {p : Pos} (h : SndL c A nm vs env xs (embL N es)) : SndV c A nm vs env (.of fun ρ σ Φ => argsV xs ρ σ fun ds σ' => Nat.ble ds.length small = true ∧ mkS m ds σ' Φ) (.List (embL N es) p) := by
  intro ρ σ Φ ha P s g Q hQ
  refine List_ (L_args es xs h ρ σ _ ha P s g _ fun us ds σ₁ s₁ hd st₁ ok₁ r₁ => ?_)
  have g₁ := g.next st₁ ok₁
  have el := r₁.length
  have hl := Nat.le_of_ble_eq_true hd.1
  exact wpAny_newObj_type (fin_list g₁ hd.2 (fun v d σ'' s'' a b e f => hQ v d σ'' s'' a (st₁.trans b) e f) (keeps_push' s₁ _) (get?_size_none _) (us := us) ⟨0, Heap.get?_push_size _ rfl⟩ r₁) (by show us.toArray.size ≤ sizeLine; rw [List.size_toArray]; have := sizeLine_small; omega)

theorem L_tup {N : Nms} {es : List PE} {xs : List VT} {k : Nat} {p : Pos} (h : SndL c A nm vs env xs (embL N es)) : SndV c A nm vs env (.of fun ρ σ Φ => argsV xs ρ σ fun ds σ' => Nat.ble ds.length small = true ∧ Φ (.tuple ds) σ') (.Tuple (embL N es) k p) := by
  intro ρ σ Φ ha P s g Q hQ
  refine Tuple_ (L_args es xs h ρ σ _ ha P s g _ fun us ds σ₁ s₁ hd st₁ ok₁ r₁ => ?_)
  have g₁ := g.next st₁ ok₁
  have el := r₁.length
  have hl := Nat.le_of_ble_eq_true hd.1
  exact wpAny_newObj_type (fin_tuple g₁ hd.2 (fun v d σ'' s'' a b e f => hQ v d σ'' s'' a (st₁.trans b) e f) (keeps_push' s₁ _) (get?_size_none _) (us := us) ⟨_, Heap.get?_push_size _ rfl, rfl, 0, rfl⟩ r₁) (by show us.toArray.size ≤ sizeLine; rw [List.size_toArray]; have := sizeLine_small; omega)

/-- a call by a global name: the name, then the arguments -/
theorem call_name {N : Nms} {x : Str} {gp p : Pos} {fv : Value} {es : List PE} {ρ : PEnv} {σ : Store} {P : Addr → Prop} {s : Shared} {Q : Value → Shared → Prop} {E : Value → Shared → Prop} (eo : EnvOk nm vs env) (hx : env.kindOf x = some .globalImplicit) (hd : (x == ("__debug__" : Str)) = false) (hv : c.glob x = some fv)
    (g : Good c nm vs env ρ σ P s) (h : wpAny c.M A (callWith p fv [] (backTo p (starEach (embL N es) env)) []) Q E s) : wpAny c.M A (eval (.Call (.Name x gp) (embL N es) [] p) env) Q E s := by
  rw [arm_eval_Call_Name']
  exact wpAny_bind (R_glob eo hx hd hv g h)

/-- what a call hands on: results and exceptions -/
theorem call_on {n : Nat} {f : Addr} {S : Spec} {ρ : PEnv} {σ σ₁ : Store} {P : Addr → Prop} {s s₁ : Shared} {ds : List D} {us : List Value} {Q : Value → Shared → Prop} {Φ : D → Store → Prop} (hA : Room n A) (hF : A.frames = some c.l) (V : Valid c.toBx n f S) (g₁ : Good c nm vs env ρ σ₁ P s₁)
    (hS : S ds σ₁ Φ c.X) (r₁ : RepL (nd σ₁ P) s₁.heap ds us) (st₁ : Step c.W noF σ σ₁ s s₁) (hQ : ∀ v d σ' s', Φ d σ' → Step c.W noF σ σ' s s' → StoreOk σ' P s'.heap → Rep (nd σ' P) s'.heap d v → Q v s') :
    codeAny c.M A (.call (.ref f) ⟨us, []⟩) (fun r s' => match r with | .ok (.ret v) => Q v s' | .ok _ => False | .error e => c.E e s') s₁ :=
  V.call A hA c.l hF ds σ₁ Φ c.X hS P s₁ us g₁.base g₁.st (fun a ha => (g₁.own a ha).1) g₁.prot g₁.wp g₁.wb g₁.fr r₁ Q c.E (fun v d σ'' s'' a b e f => hQ v d σ'' s'' a (st₁.trans b) e f)
    fun e C σ' s' hX st ok fr fl => c.exc e C σ' s' hX (g₁.since.trans (st.weak fun _ h => h.elim)) (ok.weak g₁.p0) fr (fl.elder g₁.since.alive)

theorem L_call {N : Nms} {x : Str} {gp p : Pos} {f : Addr} {S : Spec} {n : Nat} {es : List PE} {xs : List VT} (hA : Room n A) (hF : A.frames = some c.l) (eo : EnvOk nm vs env) (hx : env.kindOf x = some .globalImplicit) (hd : (x == ("__debug__" : Str)) = false) (hv : c.glob x = some (.ref f)) (V : Valid c.toBx n f S)
    (hne : es ≠ []) (h : SndL c A nm vs env xs (embL N es)) : SndV c A nm vs env (.of fun ρ σ Φ => argsV xs ρ σ fun ds σ' => S ds σ' Φ c.X) (.Call (.Name x gp) (embL N es) [] p) := by
  intro ρ σ Φ ha P s g Q hQ
  refine call_name eo hx hd hv g ?_
  obtain ⟨o, fd, ho, hdat⟩ := V.fn
  cases es with
  | nil => exact absurd rfl hne
  | cons e r =>
    have h0 := L_args (pos := p) (e :: r) xs h ρ σ _ ha P s g
    simp only [embL_nil, embL_cons] at h0 ⊢
    refine callWith_def hdat (h0 _ fun us ds σ₁ s₁ hS st₁ ok₁ r₁ => ?_) (emb_star N e _ env)
    have g₁ := g.next st₁ ok₁
    exact ⟨g₁.base f o ho, wpAny_call (call_on hA hF V g₁ hS r₁ st₁ hQ)⟩

theorem L_bi {N : Nms} {x : Str} {gp p : Pos} {b : BI} {m : Bool} {es : List PE} {xs : List VT} (hh : A.handled = none) (eo : EnvOk nm vs env) (hx : env.kindOf x = some .globalImplicit) (hd : (x == ("__debug__" : Str)) = false) (hv : c.glob x = some b.val)
    (hne : es ≠ []) (h : SndL c A nm vs env xs (embL N es)) : SndV c A nm vs env (.of fun ρ σ Φ => argsV xs ρ σ fun ds σ' => biS b m ds σ' Φ) (.Call (.Name x gp) (embL N es) [] p) := by
  intro ρ σ Φ ha P s g Q hQ
  refine call_name eo hx hd hv g ?_
  cases es with
  | nil => exact absurd rfl hne
  | cons e r =>
    have h0 := L_args (pos := p) (e :: r) xs h ρ σ _ ha P s g
    have pl := plain_star (env := env) (pos := p) N r
    simp only [embL_nil, embL_cons] at h0 ⊢
    have fin : wpAny c.M A (spliced (backTo p (starEach (emb N e :: embL N r) env))) (fun us s₁ => wpAny c.M A (PySem.call b.val us) Q c.E s₁) c.E s := h0 _ fun us ds σ₁ s₁ hS st₁ ok₁ r₁ =>
      biS_sound hh (g.next st₁ ok₁) hS r₁ fun v d σ'' s'' a b e f => hQ v d σ'' s'' a (st₁.trans b) e f
    cases b with
    | list | listD | tupleA => exact PyProof.Rows.callWith_type1 fin (emb_star N e _ env) pl
    | _ => exact callWith_builtin1 fin (emb_star N e _ env) pl

theorem L_isi {N : Nms} {x y : Str} {gp tp p : Pos} {ty : TY} {e : PE} {v : VT} (eo : EnvOk nm vs env) (hx : env.kindOf x = some .globalImplicit) (hd : (x == ("__debug__" : Str)) = false) (hv : c.glob x = some (.builtin "isinstance"))
    (hy : env.kindOf y = some .globalImplicit) (hd' : (y == ("__debug__" : Str)) = false) (hv' : c.glob y = some (.type ty.name)) (h : SndV c A nm vs env v (emb N e)) :
    SndV c A nm vs env (.of fun ρ σ Φ => v.v ρ σ fun d σ' => ∃ t, tyS ty d σ' = some t ∧ Φ (.bool t) σ') (.Call (.Name x gp) [emb N e, .Name y tp] [] p) := by
  intro ρ σ Φ ha P s g Q hQ
  rw [arm_eval_Call_Name']
  refine wpAny_bind (R_glob eo hx hd hv g ?_)
  refine callWith_builtin1 ?_ (emb_star N e _ env) rfl
  refine args_cons (h ρ σ _ ha P s g _ fun u d σ₁ s₁ hS st₁ ok₁ r₁ => ?_) (emb_star N e _ env)
  have g₁ := g.next st₁ ok₁
  refine args_cons (R_glob eo hy hd' hv' g₁ (args_nil ?_))
  obtain ⟨t, e1, h1⟩ := hS
  exact tyS_sound g₁ e1 h1 r₁ fun v d σ'' s'' a b e f => hQ v d σ'' s'' a (st₁.trans b) e f

theorem L_app {N : Nms} {ap p : Pos} {o e : PE} {x y : VT} (hl : (ap.endLine == p.line) = true) (hb : baseOk o = true) (hx : SndV c A nm vs env x (emb N o)) (hy : SndV c A nm vs env y (emb N e)) :
    SndV c A nm vs env (.of fun ρ σ Φ => x.v ρ σ fun a σ₁ => isML a σ₁ ∧ y.v ρ σ₁ fun b σ₂ => appS a b σ₂ Φ) (.Call (.Attribute (emb N o) (Str.ofString "append") ap) [emb N e] [] p) := by
  intro ρ σ Φ ha P s g Q hQ
  rw [arm_eval_Call, emb_base N o _ _ _ hb]
  refine wpAny_bind (hx ρ σ _ ha P s g _ fun v₁ d₁ σ₁ s₁ h₁ st₁ ok₁ r₁ => ?_)
  have g₁ := g.next st₁ ok₁
  refine wpAny_bind (wpAny_standAt ?_)
  obtain ⟨hm, h₁⟩ := h₁
  have es := emb_star N e [] env
  unfold isML at hm
  split at hm
  · rename_i a
    obtain ⟨xs, hm⟩ := hm
    have r₁' := r₁
    simp only [Rep] at r₁
    subst r₁
    obtain ⟨us, ⟨n, ho⟩, _⟩ := g₁.st.rep a _ hm
    have hform : methodCallForm (([emb N e] : List Expr).length + ([] : List Keyword).length) (backTo p (starEach [emb N e] env)) (backToKw p (keywordEach [] env)) = true := by rw [es]; rfl
    have hpos : methodCallPos true (emb N o) env ap p = pure p := by unfold methodCallPos; simp [hl]
    unfold methodCall
    rw [hform]
    refine wpAny_bind (wpAny_holding (Calls.getMethod_list_append ho rfl rfl ?_))
    refine wpAny_bind (wpAny_of_eq hpos ?_)
    rw [show backTo p (starEach [emb N e] env) = [(false, eval (emb N e) env)] from by rw [es]; rfl]
    refine Calls.callWith_builtin rfl (Calls.evalArgs_plain (Calls.spliced_cons ?_))
    refine hy ρ σ₁ _ h₁ P s₁ g₁ _ fun v₂ d₂ σ₂ s₂ h₂ st₂ ok₂ r₂ => ?_
    have g₂ := g₁.next st₂ ok₂
    refine Calls.spliced_nil ?_
    exact app_sound g₂ h₂ (Rep.stay (st₂.stay g.wp) _ _ r₁') r₂ fun v d σ'' s'' a b e f => hQ v d σ'' s'' a ((st₁.trans st₂).trans b) e f
  · exact hm.elim

/-- an optional part of a slice -/
noncomputable def SndO (c : Cx) (A : Around) (nm : Nat → Str) (vs : List Nat) (env : Env) (tr : PEnv → Store → (Option D → Store → Prop) → Prop) (e : Option Expr) : Prop :=
  ∀ ρ σ Φ, tr ρ σ Φ → ∀ P s, Good c nm vs env ρ σ P s → ∀ (Q : Value → Shared → Prop),
    (∀ v o σ' s', Φ o σ' → Step c.W noF σ σ' s s' → StoreOk σ' P s'.heap → ((o = Option.none ∧ v = .none) ∨ ∃ d, o = some d ∧ Rep (nd σ' P) s'.heap d v) → Q v s') → wpAny c.M A (evalPart e env) Q c.E s

theorem part_stay {σ σ' : Store} {P : Addr → Prop} {s s' : Shared} {o : Option D} {v : Value} (hw : ∀ a, c.W a → P a) (st : Step c.W noF σ σ' s s') (h : (o = Option.none ∧ v = .none) ∨ ∃ d, o = some d ∧ Rep (nd σ P) s.heap d v) : (o = Option.none ∧ v = .none) ∨ ∃ d, o = some d ∧ Rep (nd σ' P) s'.heap d v :=
  h.imp id fun ⟨d, a, b⟩ => ⟨d, a, Rep.stay (st.stay hw) _ _ b⟩

theorem L_slc {x : VT} {tl th : PEnv → Store → (Option D → Store → Prop) → Prop} {o : Expr} {lo hi : Option Expr} {m : Bool} {sp p : Pos} (hx : SndV c A nm vs env x o) (hl : SndO c A nm vs env tl lo) (hh : SndO c A nm vs env th hi) :
    SndV c A nm vs env (.of fun ρ σ Φ => x.v ρ σ fun a σ₁ => tl ρ σ₁ fun l σ₂ => th ρ σ₂ fun h σ₃ => slcS m a l h σ₃ Φ) (.Subscript o (.Slice lo hi Option.none sp) p) := by
  intro ρ σ Φ h P s g Q hQ
  refine Subscript_ (hx ρ σ _ h P s g _ fun v₁ d₁ σ₁ s₁ h₁ st₁ ok₁ r₁ => ?_)
  have g₁ := g.next st₁ ok₁
  refine wpAny_Slice (hl ρ σ₁ _ h₁ P s₁ g₁ _ fun v₂ o₂ σ₂ s₂ h₂ st₂ ok₂ r₂ => ?_)
  have g₂ := g₁.next st₂ ok₂
  refine hh ρ σ₂ _ h₂ P s₂ g₂ _ fun v₃ o₃ σ₃ s₃ h₃ st₃ ok₃ r₃ => ?_
  have g₃ := g₂.next st₃ ok₃
  rw [evalPart_none]
  refine wpAny_pure ?_
  have kp := keeps_push' s₃ ({ cls := .type "slice", data := .fields #[v₂, v₃, .none] } : Obj)
  have st₄ : Step c.W noF σ₃ σ₃ s₃ _ := Step.of_keeps kp
  have g₄ := g₃.next st₄ (g₃.st.keeps (keeps_heap kp))
  refine slcS_sound g₄ h₃ (Rep.stay (st₄.stay g.wp) _ _ (Rep.stay (st₃.stay g.wp) _ _ (Rep.stay (st₂.stay g.wp) _ _ r₁))) (part_stay g.wp st₄ (part_stay g.wp st₃ r₂)) (part_stay g.wp st₄ r₃) ⟨_, Heap.get?_push_size _ rfl, rfl, rfl⟩ fun v d σ'' s'' a b e f => hQ v d σ'' s'' a ((((st₁.trans st₂).trans st₃).trans st₄).trans b) e f

theorem L_range {N : Nms} {x : Str} {gp p : Pos} {e : PE} {v : VT} (hh : A.handled = none) (eo : EnvOk nm vs env) (hx : env.kindOf x = some .globalImplicit) (hd : (x == ("__debug__" : Str)) = false) (hv : c.glob x = some (.type "range")) (h : SndV c A nm vs env v (emb N e)) :
    SndI c A nm vs env (fun ρ σ Φ => v.v ρ σ fun d σ' => match d with | .int n => n ≤ small ∧ -small ≤ n ∧ Φ .none (rangeD n) σ' | _ => False) (.Call (.Name x gp) [emb N e] [] p) := by
  intro ρ σ Φ ha P s g Q hQ
  rw [arm_eval_Call_Name']
  refine wpAny_bind (R_glob eo hx hd hv g ?_)
  refine PyProof.Rows.callWith_type1 ?_ (emb_star N e _ env) rfl
  refine args_cons (h ρ σ _ ha P s g _ fun u d σ₁ s₁ hS st₁ ok₁ r₁ => ?_) (emb_star N e _ env)
  have g₁ := g.next st₁ ok₁
  cases d <;> simp only at hS
  rename_i n
  simp only [Rep] at r₁
  obtain ⟨t, rfl⟩ := r₁
  refine args_nil (call_range_1 ?_)
  have kp := keeps_push s₁ ({ cls := .type "range", data := .fields #[.int 0 s₁.toks, .int n t, .int 1 (s₁.toks + 1)] } : Obj) (s₁.toks + 1 + 1)
  exact hQ _ _ _ σ₁ _ hS.2.2 (st₁.trans (Step.of_keeps kp)) (g₁.st.keeps (keeps_heap kp)) (itv_range hh (IsRange.new _ _ _ _ _ _ _) hS.1 hS.2.1)

theorem L_of {v : VT} {e : Expr} (hh : A.handled = none) (h : SndV c A nm vs env v e) : SndI c A nm vs env (fun ρ σ Φ => v.v ρ σ fun d σ' => ∃ ds, asL σ' d = some ds ∧ Φ d ds σ') e := by
  intro ρ σ Φ ha P s g Q hQ
  refine h ρ σ _ ha P s g _ fun u d σ₁ s₁ hS st₁ ok₁ r₁ => ?_
  obtain ⟨ds, e1, h1⟩ := hS
  exact hQ u d ds σ₁ s₁ h1 st₁ ok₁ (itv_seq hh ok₁ r₁ e1)
end
end Mine
end
section
open PySem PySem.W PyProof.Rows
set_option Elab.async false
set_option linter.unusedVariables false
namespace Mine
section
variable {c : Cx} {A : Around} {nm : Nat → Str} {vs : List Nat} {env : Env}

theorem Good.big {ρ σ P s} (g : Good c nm vs env ρ σ P s) : sysModules < s.heap.objs.size := by
  obtain ⟨o, es, ep, ho, _⟩ := c.hg
  have := Heap.lt_size (g.base _ _ ho)
  have h3 : mainGlobals = 3 := rfl
  have h1 : sysModules = 1 := rfl
  rw [h3] at this
  rw [h1]
  exact Nat.lt_trans (by decide) this

theorem L_gint {x : Str} {gp : Pos} {i : Int} {t : Tok} (eo : EnvOk nm vs env) (hx : env.kindOf x = some .globalImplicit) (hd : (x == ("__debug__" : Str)) = false) (hv : c.glob x = some (.int i t)) :
    SndV c A nm vs env (.of fun _ σ Φ => Φ (.int i) σ) (.Name x gp) := by
  intro ρ σ Φ ha P s g Q hQ
  exact R_glob eo hx hd hv g (fin_keeps g hQ ha (keeps_refl s) rep_int)

theorem L_attr {N : Nms} {C : Nat} {name : Str} {p : Pos} {o : PE} {x : VT} (hb : baseOk o = true) (ho : AttrOk c.K C name) (hx : SndV c A nm vs env x (emb N o)) :
    SndV c A nm vs env (.of fun ρ σ Φ => x.v ρ σ fun d σ' => attrS C name d σ' Φ) (.Attribute (emb N o) name p) := by
  intro ρ σ Φ ha P s g Q hQ
  rw [arm_eval_Attribute, emb_base N o _ _ _ hb]
  refine wpAny_bind (hx ρ σ _ ha P s g _ fun v d σ₁ s₁ h₁ st₁ ok₁ r₁ => ?_)
  have g₁ := g.next st₁ ok₁
  refine wpAny_bind (wpAny_standAt ?_)
  obtain ⟨a, dx, fs, y, rfl, hm, hg, h⟩ := h₁
  simp only [Rep] at r₁
  subst r₁
  refine wpAny_bind (wpAny_holding (attr_sound g₁ ho hm hg h fun v d σ'' s'' a b e f => ?_))
  exact wpAny_bind (wpAny_letTemporaryGo (wpAny_pure (hQ v d σ'' s'' a (st₁.trans b) e f)))

theorem form_ok {N : Nms} {p : Pos} {args : List PE} (hn : args.length ≤ 5) : methodCallForm ((embL N args).length + ([] : List Keyword).length) (backTo p (starEach (embL N args) env)) (backToKw p (keywordEach [] env)) = true := by
  have h1 := plain_star (env := env) (pos := p) N args
  have hl : ∀ l : List PE, (embL N l).length = l.length := fun l => by
    induction l with
    | nil => rfl
    | cons e r ih => simp [embL, ih]
  unfold methodCallForm
  have h2 : (backTo p (starEach (embL N args) env)).all (fun x => !x.1) = true := by
    rw [List.all_eq_true]
    intro x hx
    rw [List.any_eq_false] at h1
    simpa using h1 x hx
  rw [h2, hl]
  show (true && true && decide (args.length + 0 + 0 < 30)) = true
  simp; omega

theorem L_meth {N : Nms} {C n : Nat} {name : Str} {ap p : Pos} {o : PE} {args : List PE} {x : VT} {xs : List VT} {f : Addr} {S : Spec} (hA : Room n A) (hF : A.frames = some c.l) (hl : (ap.endLine == p.line) = true) (hb : baseOk o = true) (hn : args.length ≤ 5) (hm : MethOk c.K C name f) (V : Valid c.toBx n f S)
    (hx : SndV c A nm vs env x (emb N o)) (hy : SndL c A nm vs env xs (embL N args)) :
    SndV c A nm vs env (.of fun ρ σ Φ => x.v ρ σ fun d σ₁ => instS C name d σ₁ ∧ argsV xs ρ σ₁ fun ds σ₂ => S (d :: ds) σ₂ Φ c.X) (.Call (.Attribute (emb N o) name ap) (embL N args) [] p) := by
  intro ρ σ Φ ha P s g Q hQ
  rw [arm_eval_Call, emb_base N o _ _ _ hb]
  refine wpAny_bind (hx ρ σ _ ha P s g _ fun v₁ d₁ σ₁ s₁ h₁ st₁ ok₁ r₁ => ?_)
  have g₁ := g.next st₁ ok₁
  refine wpAny_bind (wpAny_standAt ?_)
  obtain ⟨⟨a, dx, fs, rfl, hs, hg⟩, h₁⟩ := h₁
  have r₁' := r₁
  simp only [Rep] at r₁
  subst r₁
  have hpos : methodCallPos true (emb N o) env ap p = pure p := by unfold methodCallPos; simp [hl]
  unfold methodCall
  rw [form_ok hn]
  refine wpAny_bind (wpAny_holding (method_sound g₁ hm hs hg ?_))
  refine wpAny_bind (wpAny_of_eq hpos ?_)
  have fin : ∀ us ds σ₂ s₂, S (.obj a :: ds) σ₂ Φ c.X → Step c.W noF σ₁ σ₂ s₁ s₂ → StoreOk σ₂ P s₂.heap → RepL (nd σ₂ P) s₂.heap ds us → wpAny c.M A (call (.ref f) ([.ref a] ++ us)) Q c.E s₂ := by
    intro us ds σ₂ s₂ hS st₂ ok₂ r₂
    have g₂ := g₁.next st₂ ok₂
    refine wpAny_call ?_
    exact call_on hA hF V g₂ hS (RepL.cons (by simp [Rep]) r₂) (st₁.trans st₂) hQ
  cases args with
  | nil =>
    simp only [embL_nil, embL_cons] at hy ⊢
    cases hy
    exact callWith_K0 (kin g₁) hm.keep (fin [] [] σ₁ s₁ h₁ (Step.refl _ _ _ _) ok₁ RepL.nil)
  | cons e r =>
    have h0 := L_args (pos := p) (e :: r) xs hy ρ σ₁ _ h₁ P s₁ g₁
    have pl := plain_star (env := env) (pos := p) N r
    simp only [embL_nil, embL_cons] at h0 ⊢
    refine callWith_K (kin g₁) hm.keep (h0 _ fun us ds σ₂ s₂ hS st₂ ok₂ r₂ => ⟨kin (g₁.next st₂ ok₂), fin us ds σ₂ s₂ hS st₂ ok₂ r₂⟩) (emb_star N e _ env) pl

theorem L_lm {N : Nms} {k : LM} {ap p : Pos} {o : PE} {args : List PE} {x : VT} {xs : List VT} (hl : (ap.endLine == p.line) = true) (hb : baseOk o = true) (hn : args.length ≤ 5)
    (hx : SndV c A nm vs env x (emb N o)) (hy : SndL c A nm vs env xs (embL N args)) :
    SndV c A nm vs env (.of fun ρ σ Φ => x.v ρ σ fun d σ₁ => lmOk k d σ₁ ∧ argsV xs ρ σ₁ fun ds σ₂ => lmS k d ds σ₂ Φ) (.Call (.Attribute (emb N o) (Str.ofString k.name) ap) (embL N args) [] p) := by
  intro ρ σ Φ ha P s g Q hQ
  rw [arm_eval_Call, emb_base N o _ _ _ hb]
  refine wpAny_bind (hx ρ σ _ ha P s g _ fun v₁ d₁ σ₁ s₁ h₁ st₁ ok₁ r₁ => ?_)
  have g₁ := g.next st₁ ok₁
  refine wpAny_bind (wpAny_standAt ?_)
  obtain ⟨hk, h₁⟩ := h₁
  have hpos : methodCallPos true (emb N o) env ap p = pure p := by unfold methodCallPos; simp [hl]
  unfold methodCall
  rw [form_ok hn]
  refine wpAny_bind (wpAny_holding (lm_method g₁ hk r₁ ?_))
  refine wpAny_bind (wpAny_of_eq hpos ?_)
  cases args with
  | nil =>
    simp only [embL_nil, embL_cons] at hy
    cases hy
    simp only [argsV] at h₁
    cases k <;> exact h₁.elim
  | cons e r =>
    have h0 := L_args (pos := p) (e :: r) xs hy ρ σ₁ _ h₁ P s₁ g₁
    have pl := plain_star (env := env) (pos := p) N (e :: r)
    simp only [embL_nil, embL_cons] at h0 pl ⊢
    rw [emb_star] at h0 pl ⊢
    refine Calls.callWith_builtin pl (Calls.evalArgs_plain ?_)
    refine h0 _ fun us ds σ₂ s₂ hS st₂ ok₂ r₂ => ?_
    exact lm_sound (g₁.next st₂ ok₂) hS (Rep.stay (st₂.stay g.wp) _ _ r₁) r₂ fun v d σ'' s'' a b e f => hQ v d σ'' s'' a ((st₁.trans st₂).trans b) e f

theorem L_dct {p : Pos} : SndV c A nm vs env (.of fun _ σ Φ => ∀ a, freshIn σ a → Φ (.obj a) (σ.set a (.mdict []))) (.Dict [] [] p) := by
  intro ρ σ Φ ha P s g Q hQ
  exact dct_sound g g.big ha hQ

theorem L_subd {x y : VT} {o i : Expr} {p : Pos} (hi : ∀ a b, subscripted i false a b = operate [a, b] (getItem a b)) (hx : SndV c A nm vs env x o) (hy : SndV c A nm vs env y i) :
    SndV c A nm vs env (.of fun ρ σ Φ => x.v ρ σ fun a σ₁ => y.v ρ σ₁ fun b σ₂ => subdS a b σ₂ Φ) (.Subscript o i p) := by
  intro ρ σ Φ h P s g Q hQ
  refine Subscript_ (R_two g (hx ρ σ _ h) (fun d σ' hd => hy ρ σ' _ hd) fun v₁ v₂ d₁ d₂ σ' s' hb st g' r₁ r₂ => ?_)
  exact subd_sound hi g' hb r₁ r₂ fun v d σ'' s'' a b e f => hQ v d σ'' s'' a (st.trans b) e f

theorem L_skeys {N : Nms} {m : Bool} {x : Str} {gp ap p' p : Pos} {o : PE} {v : VT} (hh : A.handled = none) (eo : EnvOk nm vs env) (hx : env.kindOf x = some .globalImplicit) (hd : (x == ("__debug__" : Str)) = false) (hv : c.glob x = some (.builtin "sorted"))
    (hl : (ap.endLine == p'.line) = true) (hb : baseOk o = true) (h : SndV c A nm vs env v (emb N o)) :
    SndV c A nm vs env (.of fun ρ σ Φ => v.v ρ σ fun d σ' => skeysS m d σ' Φ) (.Call (.Name x gp) [.Call (.Attribute (emb N o) (Str.ofString "keys") ap) [] [] p'] [] p) := by
  intro ρ σ Φ ha P s g Q hQ
  rw [arm_eval_Call_Name']
  refine wpAny_bind (R_glob eo hx hd hv g ?_)
  refine callWith_builtin1 ?_ rfl rfl
  refine args_cons ?_ rfl
  rw [arm_eval_Call, emb_base N o _ _ _ hb]
  refine wpAny_bind (h ρ σ _ ha P s g _ fun v₁ d₁ σ₁ s₁ h₁ st₁ ok₁ r₁ => ?_)
  have g₁ := g.next st₁ ok₁
  refine wpAny_bind (wpAny_standAt ?_)
  obtain ⟨a, kvs, ms, rfl, hm, hn, hp, hs, h₁⟩ := h₁
  simp only [Rep] at r₁
  subst r₁
  have hpos : methodCallPos true (emb N o) env ap p' = pure p' := by unfold methodCallPos; simp [hl]
  have hf := form_ok (N := N) (env := env) (p := p') (args := []) (by decide)
  simp only [embL_nil, embL_cons] at hf
  unfold methodCall
  rw [hf]
  refine wpAny_bind (wpAny_holding (keys_method g₁ hm ?_))
  refine wpAny_bind (wpAny_of_eq hpos ?_)
  refine Calls.callWith_builtin rfl (evalArgs_nil3 ?_)
  refine wpAny_mono (skeys_sound hh g₁ hm hn hp hs h₁ fun v d σ'' s'' a b e f => hQ v d σ'' s'' a (st₁.trans b) e f) (fun u s' h => args_nil h) fun _ _ e => e

end
end Mine
end
section
open PySem PySem.W PyProof.Rows
set_option Elab.async false
set_option linter.unusedVariables false
namespace Mine

section
variable {c : Cx} {A : Around} {nm : Nat → Str} {vs : List Nat} {env : Env}

theorem Room.make {n : Nat} (h : Room (n + 1) A) (C : Addr) (us : List Value) : Room n (A.under (.builtin "type.__call__" ⟨.ref C :: us, []⟩)) := by
  obtain ⟨a, b, d⟩ := h
  refine ⟨a, ?_, ?_⟩
  · show A.depth + 1 + n ≤ 900; omega
  · show A.units + 1 + 10 * n + 500 ≤ 9000; omega

theorem new_sound {n : Nat} {C f : Addr} {S : Spec} {ds : List D} {us : List Value} {ρ σ P s} {Q : Value → Shared → Prop} {Φ : D → Store → Prop} (hA : Room (n + 1) A) (hF : A.frames = some c.l) (g : Good c nm vs env ρ σ P s) (hn : NewOk c.K C f) (V : Valid c.toBx n f S) (h : newS C S ds σ Φ c.X) (hr : RepL (nd σ P) s.heap ds us)
    (hQ : ∀ v d σ' s', Φ d σ' → Step c.W noF σ σ' s s' → StoreOk σ' P s'.heap → Rep (nd σ' P) s'.heap d v → Q v s') : wpAny c.M A (call (.ref C) us) Q c.E s := by
  have X := kin g
  refine wpAny_call ?_
  have hne : s.heap.objs.size ≠ s.heap.objs.size + 1 := Nat.ne_of_lt (Nat.lt_succ_self _)
  have hn1 : s.heap.get? (s.heap.objs.size + 1) = none := by
    cases e : s.heap.get? (s.heap.objs.size + 1) with
    | none => rfl
    | some o => exact absurd (Heap.lt_size e) (Nat.not_lt.mpr (Nat.le_succ _))
  have kp : Keeps s { s with heap := (s.heap.push emptyDict).push (instObj C s.heap.objs.size) } := ⟨_, s.toks, rfl, fun b o e => Heap.get?_push_of_some _ (Heap.get?_push_of_some _ e)⟩
  have hsz : (s.heap.push emptyDict).objs.size = s.heap.objs.size + 1 := Heap.size_push ..
  have o1 : ((s.heap.push emptyDict).push (instObj C s.heap.objs.size)).get? (s.heap.objs.size + 1) = some (instObj C s.heap.objs.size) := by
    rw [← hsz]; exact Heap.get?_push_size _ rfl
  have o2 : ((s.heap.push emptyDict).push (instObj C s.heap.objs.size)).get? s.heap.objs.size = some emptyDict := Heap.get?_push_of_some _ (Heap.get?_push_size _ rfl)
  obtain ⟨st, ok⟩ := alloc_gen g (mo := .inst C s.heap.objs.size []) (a := s.heap.objs.size + 1) kp hn1 (fun x ⟨C', fs, e⟩ => by cases e; exact ⟨get?_size_none _, hne⟩) fun sty =>
    ⟨0, [], [], o1, o2, by simp [EntS], by simp, RepL.nil, List.nodup_nil, hne⟩
  have g₁ := g.next st ok
  have hS := h (s.heap.objs.size + 1) s.heap.objs.size (fresh_of_not_dom (g.not_dom hn1)) (fresh_of_not_dom (g.not_dom (get?_size_none _))) hne.symm
  have main := call_on (us := .ref (s.heap.objs.size + 1) :: us) (A := A.under (.builtin "type.__call__" ⟨.ref C :: us, []⟩)) (Q := fun v s' => v = .none ∧ Q (.ref (s.heap.objs.size + 1)) s') (hA.make C us) hF V g₁ hS (RepL.cons (by simp [Rep]) (RepL.stay (st.stay g.wp) _ _ hr)) (Step.refl _ _ _ _)
    (fun v d σ' s' hd st' ok' hr' => by
      obtain ⟨rfl, hΦ⟩ := hd
      simp only [Rep] at hr'
      exact ⟨hr', hQ _ (.obj _) σ' s' hΦ (st.trans st') ok' (by simp [Rep])⟩)
  obtain ⟨hp, gs, dr, tk, os⟩ := s
  refine make_core (makes_of X hn.makes) (looks_findIn X hn.init) (fun self => bind_fn X self (beq_iff_eq.mp hn.isf)) (.inl (by rfl)) (codeAny_mono main fun r s' hr => ?_)
  unfold InitBack
  split at hr <;> first | exact hr | exact hr.elim

theorem L_new {N : Nms} {n C : Nat} {x : Str} {gp p : Pos} {es : List PE} {xs : List VT} {f : Addr} {S : Spec} (hA : Room (n + 1) A) (hF : A.frames = some c.l) (eo : EnvOk nm vs env) (hx : env.kindOf x = some .globalImplicit) (hd : (x == ("__debug__" : Str)) = false) (hv : c.glob x = some (.ref C)) (hn : NewOk c.K C f) (V : Valid c.toBx n f S)
    (h : SndL c A nm vs env xs (embL N es)) : SndV c A nm vs env (.of fun ρ σ Φ => argsV xs ρ σ fun ds σ₁ => newS C S ds σ₁ Φ c.X) (.Call (.Name x gp) (embL N es) [] p) := by
  intro ρ σ Φ ha P s g Q hQ
  rw [arm_eval_Call_Name']
  refine wpAny_bind (R_glob eo hx hd hv g ?_)
  cases es with
  | nil =>
    simp only [embL_nil, embL_cons] at h ⊢
    cases h
    exact callWith_K0 (kin g) hn.keep (new_sound hA hF g hn V ha RepL.nil hQ)
  | cons e r =>
    have h0 := L_args (pos := p) (e :: r) xs h ρ σ _ ha P s g
    have pl := plain_star (env := env) (pos := p) N r
    simp only [embL_nil, embL_cons] at h0 ⊢
    exact callWith_K (kin g) hn.keep (h0 _ fun us ds σ₁ s₁ hS st₁ ok₁ r₁ => ⟨kin (g.next st₁ ok₁), new_sound hA hF (g.next st₁ ok₁) hn V hS r₁ fun v d σ'' s'' a b e f => hQ v d σ'' s'' a (st₁.trans b) e f⟩) (emb_star N e _ env) pl

theorem R_sattr {N : Nms} {C : Nat} {name : Str} {ap p : Pos} {o e : PE} {x y : VT} (hs : ∀ l tg, swapsWith (emb N e) (some tg) l env = pure false) (ho : SetOk c.K C name) (hx : SndV c A nm vs env x (emb N o)) (hy : SndV c A nm vs env y (emb N e)) {ρ : PEnv} {σ : Store} {Φ : Res → Prop}
    (h : y.v ρ σ fun d σ₁ => x.v ρ σ₁ fun z σ₂ => setS C name z d σ₂ fun σ₃ => Φ (.next ρ σ₃)) : WPs c A nm vs env ρ σ (exec (.Assign [.Attribute (emb N o) name ap] (emb N e) p) env) Φ := by
  intro P s g Q hQ
  refine plainObj_wpAny_Assign_Attribute (hy ρ σ _ h P s g _ fun v₁ d₁ σ₁ s₁ h₁ st₁ ok₁ r₁ => ?_) (hs _ _)
  have g₁ := g.next st₁ ok₁
  refine hx ρ σ₁ _ h₁ P s₁ g₁ _ fun v₂ d₂ σ₂ s₂ h₂ st₂ ok₂ r₂ => ?_
  have g₂ := g₁.next st₂ ok₂
  obtain ⟨a, dx, fs, rfl, hm, hl, h₂⟩ := h₂
  simp only [Rep] at r₂
  subst r₂
  refine setattr_sound g₂ ho hm hl (Rep.stay (st₂.stay g.wp) _ _ r₁) fun s₃ st₃ ok₃ => ?_
  exact hQ .next s₃ _ h₂ (((st₁.trans st₂).trans st₃).weak fun _ h => h.elim) ⟨rfl, g₂.next st₃ ok₃⟩

theorem R_ssub {N : Nms} {sp p : Pos} {o i e : PE} {x y z : VT} (hs : ∀ l tg, swapsWith (emb N e) (some tg) l env = pure false) (hx : SndV c A nm vs env x (emb N o)) (hz : SndV c A nm vs env z (emb N i)) (hy : SndV c A nm vs env y (emb N e)) {ρ : PEnv} {σ : Store} {Φ : Res → Prop}
    (h : y.v ρ σ fun d σ₁ => x.v ρ σ₁ fun w σ₂ => z.v ρ σ₂ fun k σ₃ => stoS w k d σ₃ fun σ₄ => Φ (.next ρ σ₄)) : WPs c A nm vs env ρ σ (exec (.Assign [.Subscript (emb N o) (emb N i) sp] (emb N e) p) env) Φ := by
  intro P s g Q hQ
  refine wpAny_Assign_Subscript (hy ρ σ _ h P s g _ fun v₁ d₁ σ₁ s₁ h₁ st₁ ok₁ r₁ => ?_) (hs _ _)
  have g₁ := g.next st₁ ok₁
  refine hx ρ σ₁ _ h₁ P s₁ g₁ _ fun v₂ d₂ σ₂ s₂ h₂ st₂ ok₂ r₂ => ?_
  have g₂ := g₁.next st₂ ok₂
  refine hz ρ σ₂ _ h₂ P s₂ g₂ _ fun v₃ d₃ σ₃ s₃ h₃ st₃ ok₃ r₃ => ?_
  have g₃ := g₂.next st₃ ok₃
  refine sto_sound g₃ h₃ (Rep.stay (st₃.stay g.wp) _ _ r₂) r₃ (Rep.stay (st₃.stay g.wp) _ _ (Rep.stay (st₂.stay g.wp) _ _ r₁)) fun σ₄ s₄ h₄ st₄ ok₄ => ?_
  exact hQ .next s₄ _ h₄ ((((st₁.trans st₂).trans st₃).trans st₄).weak fun _ h => h.elim) ⟨rfl, g₃.next st₄ ok₄⟩
end
end Mine
end
section
open PySem PySem.W PyProof.Rows
set_option Elab.async false
set_option linter.unusedVariables false
namespace Mine

/-- an own class of exceptions below ValueError stands in the heap -/
structure ExcOk (h : Heap) (C : Addr) (bm bmB : List Value) (newId initId : String) : Prop where
  facts : ExcBaseFacts "ValueError" newId initId bmB
  obj : ∃ N nm q bs hdct sn sub ab col dd k0 k1 k2 k3 k5 mN, h.get? C = some (excClassObj nm q C N bs bm hdct sn sub ab col dd k0 k1 k2 k3 k5 newId) ∧ h.Ns N mN ∧ mN "__init__" = none ∧ OwnTail h bmB bm

section
variable {c : Cx} {A : Around} {nm : Nat → Str} {vs : List Nat} {env : Env}

theorem Frs.keeps {h h' : Heap} {l : List Env} (x : Frs h l) (k : ∀ a o, h.get? a = some o → h'.get? a = some o) : Frs h' l := fun e he => by
  obtain ⟨q1, L, o, q2, q3, q4⟩ := x e he
  exact ⟨q1, L, o, q2, k L o q3, q4⟩

theorem R_raise {x : Str} {C : Addr} {bm bmB : List Value} {newId initId : String} {m : Str} {gp mp cp p : Pos} {ρ : PEnv} {σ : Store} {Φ : Res → Prop} (hh : A.handled = none) (eo : EnvOk nm vs env) (hx : env.kindOf x = some .globalImplicit) (hd : (x == ("__debug__" : Str)) = false) (hv : c.glob x = some (.ref C))
    (O : ExcOk c.b C bm bmB newId initId) (h : c.X C σ) : WPs c A nm vs env ρ σ (exec (.Raise (some (.Call (.Name x gp) [.Constant (.str m) 0 mp] [] cp)) none p) env) Φ := by
  intro P s g Q hQ
  obtain ⟨N, nm', q, bs, hdct, sn, sub, ab, col, dd, k0, k1, k2, k3, k5, mN, hC, hN, hni, T⟩ := O.obj
  refine wpAny_Raise_call_subT (C := C) (nm := nm') (q := q) (N := N) (bs := bs) (bm := bm) (hdct := hdct) (sn := sn) (sub := sub) (ab := ab) (col := col) (dd := dd) (k0 := k0) (k1 := k1) (k2 := k2) (k3 := k3) (k5 := k5)
    O.facts (mN := mN) (T.hasType O.facts.hasBase) hh rfl hni (R_glob eo hx hd hv g ⟨rfl, ?_⟩)
  refine Calls.evalArgs_plain ?_
  refine args_cons (wpAny_Constant_str (args_nil ?_)) rfl
  have kb : ∀ b o, c.b.get? b = some o → ({ s with toks := s.toks + 1 } : Shared).heap.get? b = some o := g.base
  refine ⟨rfl, by show 1 ≤ sizeLine; decide, kb _ _ hC, hN.keeps kb, T.keeps kb, fun h' e hm => ?_⟩
  have kp : Keeps s { s with heap := h', toks := s.toks + 1 } := ⟨h', _, rfl, hm.keeps⟩
  refine c.exc e C σ _ h (g.since.trans (Step.of_keeps kp)) ((g.st.keeps hm.keeps).weak g.p0) (g.fr.keeps hm.keeps) ⟨?_, .inl ⟨s.heap, _, hm, g.since.alive⟩⟩
  cases e' : c.s₀.heap.get? e with
  | none => rfl
  | some o => obtain ⟨o', q'⟩ := g.since.alive e o e'; have := hm.new; rw [q'] at this; cases this
end
end Mine
end
section
open PySem PySem.W PyProof.Rows
set_option Elab.async false
set_option linter.unusedVariables false
namespace Mine

theorem Kp.refl (h₀ : Heap) (l : List Env) (h : Heap) : Kp h₀ l h h := ⟨fun _ _ e _ _ => e, fun _ o e _ => ⟨o.slots, e⟩⟩
theorem isFl_same {h h' : Heap} {a : Addr} {o : Obj} (e : h.get? a = some o) (e' : h'.get? a = some o) : isFl h' a = isFl h a := by unfold isFl; rw [e, e']
theorem Kp.trans {h₀ h h' h'' : Heap} {l : List Env} (x : Kp h₀ l h h') (y : Kp h₀ l h' h'') : Kp h₀ l h h'' :=
  ⟨fun a o e h0 hw => by
    have e' := x.keep a o e h0 hw
    exact y.keep a o e' (h0.imp id fun q => by rw [isFl_same e e']; exact q) hw, fun a o e hw => by
    obtain ⟨sl, e'⟩ := x.slot a o e hw
    obtain ⟨sl', e''⟩ := y.slot a _ e' hw
    exact ⟨sl', e''⟩⟩

theorem land_any {M : Model} {A : Around} {E : Value → Shared → Prop} {s : Shared} {h₀ : Heap} {l : List Env} {e C : Addr} {a0 fl : Value} {Q : Unit → Shared → Prop} (fr : Frs s.heap l) (x : s.heap.TracedAtW h₀ e (.ref C) a0 fl)
    (hQ : ∀ h', h'.TracedAtW h₀ e (.ref C) a0 .none → Kp h₀ l s.heap h' → Q () { s with heap := h' }) : wpAny M A (setFlight (.ref e) none) Q E s := by
  obtain ⟨oe, vs, T, oT, ts, h1, h2, h3, h4, h5, h6, h7, h8, h9⟩ := x
  have hsz : 3 < ts.size := (Array.getElem?_eq_some_iff.mp h9).1
  refine wpAny_setFlight_none h1 h3 h4 h7 h8 hsz ?_
  have other : ∀ b, b ≠ T → (s.heap.update T (Obj.mapFields (·.setIfInBounds 3 .none))).get? b = s.heap.get? b := fun b hb => Heap.get?_update_other _ _ (Ne.symm hb)
  refine hQ _ ⟨oe, vs, T, _, _, (other e (Ne.symm h6)).trans h1, h2, h3, h4, h5, h6, Heap.get?_update_self _ h7 (Obj.isFreed_of_fields (Obj.data_mapFields h8 _)), Obj.data_mapFields h8 _, by simp [hsz]⟩ ⟨fun a o e' h0' hw => ?_, fun a o e' hw => ?_⟩
  · refine (other a fun q => ?_).trans e'
    rcases h0' with ⟨o₀, e0⟩ | e0
    · rw [q, h5] at e0; cases e0
    · rw [q, isFl_of h7 h8] at e0; cases e0
  · refine ⟨o.slots, (other a fun q => ?_).trans e'⟩
    subst q
    obtain ⟨o2, e2, e3⟩ := frs_w fr a hw
    rw [h7] at e2; cases e2
    exact e3 ts h8

/-! which classes catch which -/
noncomputable def Exc (h : Heap) (C : Addr) (bm : List Value) : Prop := ∃ bmB newId initId, ExcOk h C bm bmB newId initId
noncomputable def Catches (h : Heap) (v : Value) (C : Addr) (b : Bool) : Prop := ∃ bm, Exc h C bm ∧ ((∃ D bmD, v = .ref D ∧ Exc h D bmD ∧ (Value.ref C :: bm).contains (.ref D) = b) ∨ (v = .type "ValueError" ∧ bm.contains (.type "ValueError") = b))

theorem ve_sub : isSubtype (.type "ValueError") (.type "BaseException") = pure true := by rw [isSubtype_type]; kernel_rfl
theorem ve_not : isSubtype (.type ((Manifest.find? "ValueError").elim "type" fun x => x.metatype)) (.type "tuple") = pure false := by rw [isSubtype_type]; kernel_rfl

section
variable {M : Model} {prog : Program} {w : World} {A : Around} {E : Value → Shared → Prop} {s : Shared} {b : Heap} {e C : Addr} {oe : Obj}
theorem match_own {nm q nm' q' : Str} {N N' D : Addr} {bs bm bs' bm' : List Value} {hdct hdct' : Bool} {sn sn' : List Str} {sub sub' : List Value} {ab ab' : Bool} {col col' : Option Bool} {dd dd' : Option Addr} {k0 k1 k2 k3 k5 j0 j1 j2 j3 j5 : Option Value} {newId newId' : String}
    {h : Heap} {g : Array GenState} {d : Drawn} {t : Nat} {os : OsState} {Q : Bool → Shared → Prop} {r : Bool}
    (hC : h.get? C = some (excClassObj nm q C N bs bm hdct sn sub ab col dd k0 k1 k2 k3 k5 newId)) (hD : h.get? D = some (excClassObj nm' q' D N' bs' bm' hdct' sn' sub' ab' col' dd' j0 j1 j2 j3 j5 newId')) (he : h.get? e = some oe) (hcls : oe.cls = .ref C)
    (hbase : bm'.contains (.type "BaseException") = true) (hr : (Value.ref C :: bm).contains (.ref D) = r) (hq : Q r ⟨h, g, d, t, os⟩) : wpAny M A (excMatches (.ref e) (.ref D)) Q E ⟨h, g, d, t, os⟩ := by
  have hcB : (Value.ref D :: bm').contains (.type "BaseException") = true := by rw [List.contains_cons, hbase, Bool.or_true]
  have f := tc_notTuple
  unfold excMatches
  repeat (first | (with_reducible refine wpAny_loadPart_at he ?_; rw [hcls]) | with_reducible refine wpAny_loadPart_at hD ?_ | (with_reducible refine wpAny_isSubtype_exc hD ?_; rw [hcB]) | wp_step)
  refine wpAny_isSubtype_exc hC ?_
  rw [hr]
  cases r with
  | true =>
    rw [if_pos rfl]
    exact wpAny_pure (wpAny_pure (wpAny_pure hq))
  | false =>
    rw [if_neg Bool.false_ne_true]
    exact wpAny_pure (wpAny_pure (wpAny_pure hq))

theorem ExcOk.base {h : Heap} {C : Addr} {bm bmB : List Value} {newId initId : String} (O : ExcOk h C bm bmB newId initId) : bm.contains (.type "BaseException") = true := by
  obtain ⟨N, nm', q, bs, hdct, sn, sub, ab, col, dd, k0, k1, k2, k3, k5, mN, hC, hN, hni, T⟩ := O.obj
  exact T.hasType O.facts.hasBase

theorem match_any {v : Value} {r : Bool} {Q : Bool → Shared → Prop} (kb : ∀ a o, b.get? a = some o → s.heap.get? a = some o) (hc : Catches b v C r) (he : s.heap.get? e = some oe) (hcls : oe.cls = .ref C) (hq : Q r s) : wpAny M A (excMatches (.ref e) v) Q E s := by
  obtain ⟨h, g, d, t, os⟩ := s
  obtain ⟨bm, ⟨bmB, n1, n2, O⟩, hc⟩ := hc
  obtain ⟨N, nm', q, bs, hdct, sn, sub, ab, col, dd, k0, k1, k2, k3, k5, mN, hC, hN, hni, T⟩ := O.obj
  rcases hc with ⟨D, bmD, rfl, ⟨bmB', n1', n2', O'⟩, hr⟩ | ⟨rfl, hr⟩
  · obtain ⟨N', nm'', q', bs', hdct', sn', sub', ab', col', dd', j0, j1, j2, j3, j5, mN', hD, hN', hni', T'⟩ := O'.obj
    exact match_own (kb _ _ hC) (kb _ _ hD) he hcls O'.base hr hq
  · exact wpAny_excMatches_sub_type (T := "ValueError") (kb _ _ hC) he hcls ve_sub ve_not (hr.symm ▸ hq)

theorem isx_any {Q : Value → Shared → Prop} (kb : ∀ a o, b.get? a = some o → s.heap.get? a = some o) (hc : Catches b (.type "ValueError") C true) (he : s.heap.get? e = some oe) (hcls : oe.cls = .ref C) (h : Q (.bool true) s) :
    wpAny (model prog w) A (call (.builtin "isinstance") [.ref e, .type "ValueError"]) Q E s := by
  obtain ⟨bm, ⟨bmB, n1, n2, O⟩, hc⟩ := hc
  obtain ⟨N, nm', q, bs, hdct, sn, sub, ab, col, dd, k0, k1, k2, k3, k5, mN, hC, hN, hni, T⟩ := O.obj
  rcases hc with ⟨D, bmD, q, _⟩ | ⟨_, hr⟩
  · cases q
  have hC' := kb _ _ hC
  have hc' : (Value.ref C :: bm).contains (.type "ValueError") = true := by rw [List.contains_cons, hr, Bool.or_true]
  refine call_isinstance_of ?_ (by intro e; cases e)
  unfold Builtin.«isinstance.nested»
  obtain ⟨hp, g, d, t, os⟩ := s
  have tyE : ∀ {Q : Value → Shared → Prop} {A : Around} {E : Value → Shared → Prop}, Q (.ref C) ⟨hp, g, d, t, os⟩ → wpAny (model prog w) A (typeOf (.ref e)) Q E ⟨hp, g, d, t, os⟩ := fun {Q A E} hq => by
    unfold typeOf
    repeat (first | (with_reducible refine wpAny_loadPart_at he ?_; rw [hcls]) | wp_step)
    exact hq
  refine wpAny_bind (m := typeOf (.ref e)) (tyE ?_)
  show wpAny _ _ (if (Value.ref C == Value.type "ValueError") = true then _ else _) _ _ _
  rw [if_neg (by simp)]
  refine wpAny_bind (m := typeOf (.type "ValueError")) (wpAny_of_eq (a := .type "type") (by kernel_rfl) ?_)
  show wpAny _ _ (if (Value.type "type" == Value.type "type") = true then _ else _) _ _ _
  rw [if_pos (by decide)]
  refine wpAny_bind (wpAny_bind (m := isType (.type "ValueError")) (wpAny_pure (a := true) ?_))
  refine wpAny_bind (m := isInstance (.ref e) (.type "ValueError")) ?_
  unfold isInstance
  refine wpAny_bind (tyE ?_)
  refine wpAny_isSubtype_exc hC' ?_
  rw [hc']
  exact wpAny_pure (a := true) (wpAny_pure h)
end

/-! a handler's place -/
noncomputable def Cx.hand (c : Cx) (E' : Value → Shared → Prop) (cu : Option (Nat × Addr)) : Cx := { c with E := E', X := fun _ _ => False, cur := cu, exc := fun _ _ _ _ h => h.elim }
theorem Good.toHand {c : Cx} {nm vs env ρ σ P s E' cu} (g : Good c nm vs env ρ σ P s) (hc : ∀ i C, cu = some (i, C) → i ∈ vs ∧ ∃ a o, VarIs env s.heap (nm i) (.ref a) ∧ nd σ P a ∧ s.heap.get? a = some o ∧ o.cls = .ref C ∧ ∃ fs, o.data = .fields fs) : Good (c.hand E' cu) nm vs env ρ σ P s :=
  ⟨g.base, g.ns, g.cell, g.var, g.st, g.own, g.fresh, g.prot, g.wp, g.wb, g.fr, g.p0, g.since, hc⟩
theorem Good.ofHand {c : Cx} {nm vs env ρ σ P s E' cu} (hcu : c.cur = none) (g : Good (c.hand E' cu) nm vs env ρ σ P s) : Good c nm vs env ρ σ P s :=
  ⟨g.base, g.ns, g.cell, g.var, g.st, g.own, g.fresh, g.prot, g.wp, g.wb, g.fr, g.p0, g.since, fun i C hc => by rw [hcu] at hc; cases hc⟩
theorem ResOk.ofHand {c : Cx} {nm vs env P r f s E' cu} (hcu : c.cur = none) (x : ResOk (c.hand E' cu) nm vs env P r f s) : ResOk c nm vs env P r f s := by
  cases r with
  | ret d σ => exact x
  | _ => exact ⟨x.1, x.2.ofHand hcu⟩

/-- an exception that has come to a try of this frame -/
structure Caught (c : Cx) (nm : Nat → Str) (vs : List Nat) (env : Env) (ρ : PEnv) (σ₀ σ : Store) (P : Addr → Prop) (s₀ s : Shared) (e C : Addr) : Prop where
  good : ∀ h', Kp s₀.heap c.l s.heap h' → Good c nm vs env ρ σ P { s with heap := h' } ∧ Step c.W noF σ₀ σ s₀ { s with heap := h' }
  tr : ∃ a0, s.heap.TracedAtW s₀.heap e (.ref C) a0 .none
  nd : nd σ P e

section
variable {c : Cx} {A : Around} {nm : Nat → Str} {vs : List Nat} {env : Env} {ρ : PEnv} {Φ : Res → Prop}
noncomputable def SndH (c : Cx) (A : Around) (nm : Nat → Str) (vs : List Nat) (env : Env) (ρ : PEnv) (Φ : Res → Prop) (hs : List ExceptHandler) (tr : Addr → Store → Prop) : Prop :=
  ∀ (e C : Addr) (σ₀ σ : Store) (P : Addr → Prop) (s₀ s : Shared) (Q : Flow → Shared → Prop), Caught c nm vs env ρ σ₀ σ P s₀ s e C → tr C σ →
    (∀ f s' r, Φ r → Step c.W (FrA env) σ₀ r.sto s₀ s' → ResOk c nm vs env P r f s' → Q f s') → wpAny c.M A (handleBy (.ref e) env hs) Q c.E s

theorem Caught.now {σ₀ σ P s₀ s e C} (k : Caught c nm vs env ρ σ₀ σ P s₀ s e C) : Good c nm vs env ρ σ P s := (k.good s.heap (Kp.refl _ _ _)).1
theorem Caught.obj {σ₀ σ P s₀ s e C} (k : Caught c nm vs env ρ σ₀ σ P s₀ s e C) : ∃ oe fs, s.heap.get? e = some oe ∧ oe.cls = .ref C ∧ oe.data = .fields fs := by
  obtain ⟨a0, oe, vs, T, oT, ts, h1, h2, h3, _⟩ := k.tr
  exact ⟨oe, vs, h1, h2.1, h3⟩

theorem H_nil : SndH c A nm vs env ρ Φ [] fun _ _ => False := fun _ _ _ _ _ _ _ _ _ h => h.elim

/-- the test of a handler -/
theorem H_test {x : Str} {gp : Pos} {v : Value} {e C : Addr} {σ₀ σ : Store} {P : Addr → Prop} {s₀ s : Shared} {b : Bool} {pos : Pos} {R : Result → Shared → Prop} {A' : Around} (eo : EnvOk nm vs env) (hx : env.kindOf x = some .globalImplicit) (hd : (x == ("__debug__" : Str)) = false) (hv : c.glob x = some v)
    (k : Caught c nm vs env ρ σ₀ σ P s₀ s e C) (hc : Catches c.b v C b) (h : R (.ok (if b then .brk else .next)) s) : codeAny c.M A' (.handlers (.ref e) [.ExceptHandler (some (.Name x gp)) none [] pos] env) R s := by
  obtain ⟨oe, fs, he, hcls, _⟩ := k.obj
  exact codeAny_handlers_test (R_glob eo hx hd hv k.now (match_any k.now.base hc he hcls h))

theorem H_mk {x : Str} {gp p : Pos} {v : Value} {cs os : List Nat} {b₀ : Stmt} {body : List Stmt} {rest : List ExceptHandler} {tb tr : Addr → Store → Prop} (hcu : c.cur = none) (eo : EnvOk nm vs env) (hx : env.kindOf x = some .globalImplicit) (hd : (x == ("__debug__" : Str)) = false) (hv : c.glob x = some v)
    (h1 : ∀ C ∈ cs, Catches c.b v C true) (h2 : ∀ C ∈ os, Catches c.b v C false) (hb : ∀ e C E' σ, tb C σ → WPs (c.hand E' none) (A.mark (some (.ref e))) nm vs env ρ σ (execs (b₀ :: body) env) Φ)
    (hr : SndH c A nm vs env ρ Φ rest tr) : SndH c A nm vs env ρ Φ (.ExceptHandler (some (.Name x gp)) none (b₀ :: body) p :: rest) fun C σ => if cs.contains C then tb C σ else os.contains C = true ∧ tr C σ := by
  intro e C σ₀ σ P s₀ s Q k ht hQ
  refine wpAny_handleBy_cons ?_ (by intro q; cases q)
  by_cases hc : cs.contains C = true
  · rw [if_pos hc] at ht
    refine H_test eo hx hd hv k (h1 C (by simpa using hc)) ?_
    refine codeAny_handlers_suite ?_
    obtain ⟨a0, htr⟩ := k.tr
    refine land_any k.now.fr htr fun h' htr' kp => ?_
    obtain ⟨g', st'⟩ := k.good h' kp
    refine hb e C _ σ ht P _ (g'.toHand fun i C' q => by cases q) _ fun f s' r hΦ st ro => ?_
    exact hQ f s' r hΦ ((st'.weak fun _ h => h.elim).trans st) (ro.ofHand hcu)
  · rw [if_neg hc] at ht
    refine H_test eo hx hd hv k (h2 C (by simpa using ht.1)) ?_
    exact hr e C σ₀ σ P s₀ s Q k ht.2 hQ

theorem at_put_self : ∀ (ρ : PEnv) (i : Nat) (d : D), i < ρ.length → (ρ.put i d).at i = some d
  | [], _, _, h => absurd h (by simp)
  | _ :: r, 0, _, _ => rfl
  | _ :: r, i + 1, d, h => at_put_self r i d (by simpa using h)
theorem at_put_ne : ∀ (ρ : PEnv) (i j : Nat) (d : D), j ≠ i → (ρ.put i d).at j = ρ.at j
  | [], _, _, _, _ => rfl
  | _ :: r, 0, 0, _, h => absurd rfl h
  | _ :: r, 0, j + 1, _, _ => rfl
  | _ :: r, i + 1, 0, _, _ => rfl
  | _ :: r, i + 1, j + 1, d, h => at_put_ne r i j d (by omega)
theorem Good.unput {σ P s x d} (g : Good c nm vs env (ρ.put x d) σ P s) (hx : ρ.at x = none) : Good c nm vs env ρ σ P s :=
  ⟨g.base, g.ns, g.cell, fun i d' e => g.var i d' (by rw [at_put_ne ρ x i d fun q => by rw [q, hx] at e; cases e]; exact e), g.st, g.own, g.fresh, g.prot, g.wp, g.wb, g.fr, g.p0, g.since, g.cur⟩

theorem H_as {x : Str} {gp rp p : Pos} {v : Value} {cs os : List Nat} {i : Nat} {e₀ : Expr} {rest : List ExceptHandler} {te : Addr → Store → (D → Store → Prop) → Prop} {tr : Addr → Store → Prop} (hcu : c.cur = none) (hff : ∀ a, FrA env a → c.F₀ a) (eo : EnvOk nm vs env) (hi : i ∈ vs) (hl : env.kindOf (nm i) = some .local) (hx : env.kindOf x = some .globalImplicit) (hd : (x == ("__debug__" : Str)) = false) (hv : c.glob x = some v)
    (h1 : ∀ C ∈ cs, Catches c.b v C true) (h2 : ∀ C ∈ os, Catches c.b v C false) (hb : ∀ e C E' σ Ψ, te C σ Ψ → WPv (c.hand E' (some (i, C))) (A.mark (some (.ref e))) nm vs env ρ σ (eval e₀ env) Ψ)
    (hr : SndH c A nm vs env ρ Φ rest tr) : SndH c A nm vs env ρ Φ (.ExceptHandler (some (.Name x gp)) (some (nm i)) [.Return (some e₀) rp] p :: rest) fun C σ => if cs.contains C then Nat.blt i ρ.length = true ∧ ρ.at i = none ∧ te C σ (fun d σ' => Φ (.ret d σ')) else os.contains C = true ∧ tr C σ := by
  intro e C σ₀ σ P s₀ s Q k ht hQ
  refine wpAny_handleBy_cons ?_ (by intro q; cases q)
  by_cases hc : cs.contains C = true
  · rw [if_pos hc] at ht
    obtain ⟨hlt, hnone, ht⟩ := ht
    refine H_test eo hx hd hv k (h1 C (by simpa using hc)) ?_
    refine codeAny_handlers_suite_as ?_
    obtain ⟨a0, htr⟩ := k.tr
    refine land_any k.now.fr htr fun h' htr' kp => ?_
    obtain ⟨g', st'⟩ := k.good h' kp
    refine store_sound (A := A.mark (some (.ref e))) (d := .obj e) eo hi hff (fun C' q => by rw [hcu] at q; cases q) g' (by simp only [Rep]) fun s₂ st₂ g₂ => ?_
    obtain ⟨oe, vs', T, oT, ts, q1, q2, q3, _⟩ := htr'
    obtain ⟨_, v', hv', hr'⟩ := g₂.var i (.obj e) (at_put_self ρ i _ (by simpa [Nat.blt_eq] using hlt))
    simp only [Rep] at hr'
    subst hr'
    have e₂ : s₂.heap.get? e = some oe := st₂.keep e oe q1 k.nd.1 (fun hf => by
      obtain ⟨o', ho', hs⟩ := g'.fr_alive hf
      rw [q1] at ho'; cases ho'
      exact hs.2 vs' q3) (fun hw => k.nd.2 (g'.wp e hw))
    refine wpAny_execs_cons (wpAny_Return_some ?_)
    refine hb e C _ σ _ ht P s₂ ((g₂.unput hnone).toHand fun j C' q => by cases q; exact ⟨hi, e, oe, hv', k.nd, e₂, q2.1, vs', q3⟩) _ fun u d σ₃ s₃ hΦ st₃ ok₃ r₃ => ?_
    have g₃ := (g₂.unput hnone).next (c := c) st₃ ok₃
    obtain ⟨m, hn⟩ := g₃.ns
    refine wpAny_nameGoes hl hn (by rw [eo.kind]; rfl) fun h₄ m' hn' hs₄ => ?_
    have hL : FrA env env.locals := .inl rfl
    have k₄ : ∀ b o, b ≠ env.locals → s₃.heap.get? b = some o → h₄.get? b = some o := fun b o hb e => hs₄.extBut b o hb e
    have stay := g₃.stay_fr hL k₄
    have st₄ : Step c.W (FrA env) σ₃ σ₃ s₃ { s₃ with heap := h₄, toks := s₃.toks + 1 } := Step.mk' ⟨h₄, _, rfl⟩ (fun a o e hd hf => k₄ a o (fun q => hf (q ▸ hL)) e) (fun a o e => by
      by_cases q : a = env.locals
      · obtain ⟨o', es, ep, ho', _⟩ := hn'; exact ⟨o', q ▸ ho'⟩
      · exact ⟨o, k₄ a o q e⟩) fun a h => .inl h
    refine hQ (.ret u) _ (.ret d σ₃) hΦ ((((st'.weak fun _ h => h.elim).trans st₂).trans (st₃.weak fun _ h => h.elim)).trans st₄) ⟨u, rfl, g₃.st.fr stay (fun hd => (g₃.own _ hd).2 hL) k₄, Rep.stay stay _ _ r₃⟩
  · rw [if_neg hc] at ht
    refine H_test eo hx hd hv k (h2 C (by simpa using ht.1)) ?_
    exact hr e C σ₀ σ P s₀ s Q k ht.2 hQ
end

/-- the place of a try's body -/
noncomputable def Cx.tri (c : Cx) (E' : Value → Shared → Prop) (X' : Addr → Store → Prop) (σ : Store) (s : Shared) (P : Addr → Prop) (hE : ∀ e C σ' s', X' C σ' → Step (WL c.l) noF σ σ' s s' → StoreOk σ' P s'.heap → Frs s'.heap c.l → Fly c.l s.heap e C s'.heap → E' (.ref e) s') : Cx :=
  { c with E := E', X := X', cur := none, F₀ := noF, σ₀ := σ, s₀ := s, P₀ := P, exc := hE }
theorem Good.toTri {c : Cx} {nm vs env ρ σ P s E' X' hE} (g : Good c nm vs env ρ σ P s) : Good (c.tri E' X' σ s P hE) nm vs env ρ σ P s :=
  ⟨g.base, g.ns, g.cell, g.var, g.st, g.own, g.fresh, g.prot, g.wp, g.wb, g.fr, fun _ h => h, Step.refl _ _ _ _, fun i C q => by cases q⟩
theorem Good.ofTri {c : Cx} {nm vs env ρ ρ' σ σ' P s s' E' X' hE} (hcu : c.cur = none) (g₀ : Good c nm vs env ρ σ P s) (g : Good (c.tri E' X' σ s P hE) nm vs env ρ' σ' P s') : Good c nm vs env ρ' σ' P s' :=
  ⟨g.base, g.ns, g.cell, g.var, g.st, g.own, g.fresh, g.prot, g.wp, g.wb, g.fr, g₀.p0, g₀.since.trans (g.since.weak fun _ h => h.elim), fun i C hc => by rw [hcu] at hc; cases hc⟩
theorem ResOk.ofTri {c : Cx} {nm vs env ρ σ P r f s s' E' X' hE} (hcu : c.cur = none) (g₀ : Good c nm vs env ρ σ P s) (x : ResOk (c.tri E' X' σ s P hE) nm vs env P r f s') : ResOk c nm vs env P r f s' := by
  cases r with
  | ret d σ => exact x
  | _ => exact ⟨x.1, Good.ofTri hcu g₀ x.2⟩

section
variable {c : Cx} {A : Around} {nm : Nat → Str} {vs : List Nat} {env : Env} {ρ : PEnv} {Φ : Res → Prop} {σ : Store}
theorem R_try {b : List Stmt} {h₀ : ExceptHandler} {hs : List ExceptHandler} {p : Pos} {tr : Addr → Store → Prop} (hcu : c.cur = none) (hF : A.frames = some c.l) (hfr : Front c.l env)
    (hb : ∀ E' s P hE, (∀ a, WL c.l a → P a) → WPs (c.tri E' tr σ s P hE) A nm vs env ρ σ (execs b env) Φ) (hh : SndH c A nm vs env ρ Φ (h₀ :: hs) tr) : WPs c A nm vs env ρ σ (exec (.Try b (h₀ :: hs) [] [] p) env) Φ := by
  intro P s g Q hQ
  refine wpAny_Try_except ?_
  refine hb _ s P ?hE g.wp P s g.toTri _ fun f s' r hΦ st ro => ?_
  case hE =>
    intro e C σ' s' hX st ok fr fl
    obtain ⟨r, L, hl, hL⟩ := hfr
    refine note_any (h₀ := s.heap) (C := C) (by rw [hF, hl]) hL (by rw [← hl]; exact fr) st.alive (by rw [← hl]; exact fl) fun h₁ held kp₁ => ?_
    rw [← hl] at held kp₁
    obtain ⟨hnew, env', r', L', a0, q1, q2, htr⟩ := held
    refine land_any (l := c.l) (kp_frs fr kp₁) htr fun h₂ htr₂ kp₂ => ?_
    have kp := kp₁.trans kp₂
    have hnd : nd σ' P e := by
      obtain ⟨oe, vs', T, oT, ts, q1, q2, q3, _⟩ := htr₂
      refine ⟨not_dom_of_fields (s := { s' with heap := h₂ }) (kp_store ok kp g.wp) q1 q3, fun hp => ?_⟩
      obtain ⟨o, ho⟩ := g.prot e hp
      rw [hnew] at ho; cases ho
    exact hh e C σ σ' P s { s' with heap := h₂ } Q ⟨fun h' kp' => ⟨g.next (s' := { s' with heap := h' }) (kp_step (s' := s') st (kp.trans kp')) (kp_store ok (kp.trans kp') g.wp), kp_step (s' := s') st (kp.trans kp')⟩, ⟨a0, htr₂⟩, hnd⟩ hX hQ
  · have ro' := ro.ofTri hcu g
    have fin := hQ f s' r hΦ st ro'
    cases f with
    | next => exact wpAny_execs_nil fin
    | _ => exact fin
end
end Mine
end
section
open PySem PySem.W PyProof.Rows
set_option Elab.async false
set_option linter.unusedVariables false
namespace Mine

theorem and2 {a b : Bool} (h : (a && b) = true) : a = true ∧ b = true := Bool.and_eq_true_iff.mp h
theorem and3 {a b c : Bool} (h : (a && b && c) = true) : (a = true ∧ b = true) ∧ c = true := ⟨and2 (and2 h).1, (and2 h).2⟩
theorem and4 {a b c d : Bool} (h : (a && b && c && d) = true) : ((a = true ∧ b = true) ∧ c = true) ∧ d = true := ⟨and3 (and2 h).1, (and2 h).2⟩
theorem and5 {a b c d e : Bool} (h : (a && b && c && d && e) = true) : (((a = true ∧ b = true) ∧ c = true) ∧ d = true) ∧ e = true := ⟨and4 (and2 h).1, (and2 h).2⟩
theorem and6 {a b c d e f : Bool} (h : (a && b && c && d && e && f) = true) : ((((a = true ∧ b = true) ∧ c = true) ∧ d = true) ∧ e = true) ∧ f = true := ⟨and5 (and2 h).1, (and2 h).2⟩

theorem gOk_ok {t : Tb} {names : List (Str × NameKind)} {env : Env} {g : Nat} (h : t.gOk names g = true) (hn : Nm env names) : env.kindOf (t.N.gn g) = some .globalImplicit ∧ (t.N.gn g == ("__debug__" : Str)) = false ∧ g ∈ t.gl := by
  unfold Tb.gOk at h
  simp only [Bool.and_eq_true, Bool.not_eq_true'] at h
  exact ⟨hn.glob _ (by simpa using h.1.1), h.1.2, by simpa using h.2⟩

/-- what is known of the classes of exceptions -/
structure GX (c : Bx) (t : Tb) : Prop where
  exc : ∀ x ∈ t.excs, t.gv x.1 = .ref x.2 ∧ ∃ bm, Exc c.b x.2 bm
  sub : ∀ x ∈ t.subs, (∀ C ∈ x.2.1, Catches c.b (t.gv x.1) C true) ∧ ∀ C ∈ x.2.2, Catches c.b (t.gv x.1) C false

/-- a place where the text may be run -/
structure At (n : Nat) (t : Tb) (S : Nat → Spec) (X : Exs) (c : Cx) (A : Around) : Prop where
  G : GT c.toBx n t S
  gx : GX c.toBx t
  q : t.q = true → Room n A
  qc : t.q = true → t.cv = Option.none
  u : A.units + 64 < cLine
  F : A.frames = some c.l
  x : c.X = X.x
  cu : c.cur = t.cv.bind fun i => X.cur.map fun C => (i, C)
theorem At.cur {n t S X c A} (a : At n t S X c A) (hq : t.q = true) : c.cur = Option.none := by rw [a.cu, a.qc hq]; rfl
theorem At.block {n t S X c A} (a : At n t S X c A) (hq : t.q = true) (E : Value → Shared → Prop) (env : Env) (σ : Store) (P : Addr → Prop) (s : Shared) : At n t S noX (c.block E env σ P s) A :=
  ⟨a.G, a.gx, a.q, a.qc, a.u, a.F, rfl, by rw [a.qc hq]; rfl⟩

section
variable {c : Cx} {A : Around} {nm : Nat → Str} {vs : List Nat} {env : Env}
theorem var_any {i : Nat} {p : Pos} {v : Value} {s : Shared} {Q : Value → Shared → Prop} {E : Value → Shared → Prop} (ok : EnvOk nm vs env) (hi : i ∈ vs) (hv : VarIs env s.heap (nm i) v) (fin : Q v s) : wpAny c.M A (eval (.Name (nm i) p) env) Q E s := by
  refine wpAny_Name ?_ (ok.dbg i hi)
  rcases hv with ⟨hk, m, hn, hm⟩ | ⟨hk, ca, hc, hcell⟩
  · exact wpAny_loadName_local ok.kind hk hn hm fin
  · exact wpAny_loadName_cell ok.kind hk hc hcell fin

theorem L_isx {x y : Str} {ip gp tp p : Pos} {i : Nat} {C : Addr} {cs : List Nat} (eo : EnvOk nm vs env) (hx : env.kindOf x = some .globalImplicit) (hd : (x == ("__debug__" : Str)) = false) (hv : c.glob x = some (.builtin "isinstance"))
    (hy : env.kindOf y = some .globalImplicit) (hd' : (y == ("__debug__" : Str)) = false) (hv' : c.glob y = some (.type "ValueError")) (hcu : c.cur = some (i, C)) (hc : ∀ C ∈ cs, Catches c.b (.type "ValueError") C true) :
    SndV c A nm vs env (.of fun _ σ Φ => exS cs [] (some C) fun t => Φ (.bool t) σ) (.Call (.Name x gp) [.Name (nm i) ip, .Name y tp] [] p) := by
  intro ρ σ Φ ha P s g Q hQ
  have ha : if cs.contains C then Φ (.bool true) σ else List.contains ([] : List Nat) C = true ∧ Φ (.bool false) σ := ha
  rw [arm_eval_Call_Name']
  refine wpAny_bind (R_glob eo hx hd hv g ?_)
  refine callWith_builtin1 ?_ rfl rfl
  obtain ⟨hi, a, o, h1, h2, h3, h4, fs, h5⟩ := g.cur i C hcu
  refine args_cons (var_any eo hi h1 (args_cons (R_glob eo hy hd' hv' g (args_nil ?_)) rfl)) rfl
  by_cases q : cs.contains C = true
  · rw [if_pos q] at ha
    exact isx_any g.base (hc C (by simpa using q)) h3 h4 (hQ _ _ σ s ha (Step.refl _ _ _ _) g.st rep_bool)
  · rw [if_neg q] at ha
    exact absurd ha.1 (by simp)

theorem L_isi2 {N : Nms} {x y z : Str} {gp p₁ p₂ tp p : Pos} {k : Nat} {e : PE} {v : VT} (eo : EnvOk nm vs env) (hx : env.kindOf x = some .globalImplicit) (hd : (x == ("__debug__" : Str)) = false) (hv : c.glob x = some (.builtin "isinstance"))
    (hy : env.kindOf y = some .globalImplicit) (hd' : (y == ("__debug__" : Str)) = false) (hv' : c.glob y = some (.type "list")) (hz : env.kindOf z = some .globalImplicit) (hd'' : (z == ("__debug__" : Str)) = false) (hv'' : c.glob z = some (.type "tuple"))
    (h : SndV c A nm vs env v (emb N e)) : SndV c A nm vs env (.of fun ρ σ Φ => v.v ρ σ fun d σ' => ∃ t, ltS d σ' = some t ∧ Φ (.bool t) σ') (.Call (.Name x gp) [emb N e, .Tuple [.Name y p₁, .Name z p₂] k tp] [] p) := by
  intro ρ σ Φ ha P s g Q hQ
  rw [arm_eval_Call_Name']
  refine wpAny_bind (R_glob eo hx hd hv g ?_)
  refine callWith_builtin1 ?_ (emb_star N e _ env) rfl
  refine args_cons (h ρ σ _ ha P s g _ fun u d σ₁ s₁ hS st₁ ok₁ r₁ => ?_) (emb_star N e _ env)
  have g₁ := g.next st₁ ok₁
  obtain ⟨t, e1, h1⟩ := hS
  refine args_cons (Tuple_ (args_cons (R_glob eo hy hd' hv' g₁ (args_cons (R_glob eo hz hd'' hv'' g₁ (args_nil ?_)) rfl)) rfl)) rfl
  have kp := keeps_push' s₁ ({ cls := .type "tuple", data := .seq #[.type "list", .type "tuple"] } : Obj)
  have st₂ : Step c.W noF σ₁ σ₁ s₁ _ := Step.of_keeps kp
  have g₂ := g₁.next st₂ (g₁.st.keeps (keeps_heap kp))
  refine wpAny_newObj_type (args_nil ?_) (by show 2 ≤ sizeLine; decide)
  exact ltS_sound g₂ e1 h1 (Rep.stay (st₂.stay g.wp) _ _ r₁) (Heap.get?_push_size _ rfl) fun v d σ'' s'' a b e f => hQ v d σ'' s'' a ((st₁.trans st₂).trans b) e f
end

section
variable {n : Nat} {A : Around} {t : Tb} {S : Nat → Spec}

mutual
theorem soundE : ∀ (e : PE) (X : Exs) (c : Cx) (z : At n t S X c A) (names : List (Str × NameKind)) (vs : List Nat) (env : Env), EnvOk t.N.nm vs env → Nm env names → wf t names vs e = true →
    SndV c A t.N.nm vs env (vc S X e) (emb t.N e) ∧ SndT c A t.N.nm vs env (vc S X e) (emb t.N e)
  | .var i p, X, c, z, names, vs, env, eo, hn, hw => by
    have hv : SndV c A t.N.nm vs env (.of fun ρ σ Φ => match ρ.at i with | some d => Φ d σ | Option.none => False) (.Name (t.N.nm i) p) := by
      intro ρ σ Φ h
      simp only [VT.of] at h
      cases e : ρ.at i with
      | none => rw [e] at h; exact h.elim
      | some d => rw [e] at h; exact R_var eo e h
    exact ⟨hv, sndT_of hv fun _ => rfl⟩
  | .cint i p, X, c, z, names, vs, env, eo, hn, hw => by
    have hv : SndV c A t.N.nm vs env (.of fun _ σ Φ => Φ (.int i) σ) (.Constant (.int i) 0 p) := fun ρ σ Φ h => R_int h
    exact ⟨hv, sndT_of hv fun _ => rfl⟩
  | .cnone p, X, c, z, names, vs, env, eo, hn, hw => by
    have hv : SndV c A t.N.nm vs env (.of fun _ σ Φ => Φ .none σ) (.Constant .none 0 p) := fun ρ σ Φ h => R_none h
    exact ⟨hv, sndT_of hv fun _ => rfl⟩
  | .cbool b p, X, c, z, names, vs, env, eo, hn, hw => by
    have hv : SndV c A t.N.nm vs env (.of fun _ σ Φ => Φ (.bool b) σ) (.Constant (.bool b) 0 p) := fun ρ σ Φ h => R_bool h
    exact ⟨hv, sndT_of hv fun _ => rfl⟩
  | .cstr x p, X, c, z, names, vs, env, eo, hn, hw => by
    have hv : SndV c A t.N.nm vs env (.of fun _ σ Φ => Φ (.str x) σ) (.Constant (.str x) 0 p) := fun ρ σ Φ h => R_str h
    exact ⟨hv, sndT_of hv fun _ => rfl⟩
  | .bin op l r p, X, c, z, names, vs, env, eo, hn, hw => by
    have hw := and2 hw
    have hv := L_bin (op := op) (p := p) (soundE l X c z names vs env eo hn hw.1).1 (soundE r X c z names vs env eo hn hw.2).1
    exact ⟨hv, sndT_of hv fun _ => rfl⟩
  | .not e p, X, c, z, names, vs, env, eo, hn, hw => by
    exact L_not (soundE e X c z names vs env eo hn hw).1 (soundE e X c z names vs env eo hn hw).2
  | .bop op es p, X, c, z, names, vs, env, eo, hn, hw => by
    have hl := soundL es X c z names vs env eo hn hw
    exact ⟨fun ρ σ Φ h => L_bopV hl ρ σ Φ h, fun ρ σ Φ h => L_bopT hl ρ σ Φ h⟩
  | .cmp op l r p, X, c, z, names, vs, env, eo, hn, hw => by
    have hw := and2 hw
    exact L_cmp (z.u) (emb_marks _ _ _) (soundE l X c z names vs env eo hn hw.1).1 (soundE r X c z names vs env eo hn hw.2).1
  | .cmp2 o₁ o₂ a b d p, X, c, z, names, vs, env, eo, hn, hw => by
    have hw := and3 hw
    exact L_cmp2 (z.u) (emb_marks _ _ _) (soundE a X c z names vs env eo hn hw.1.1).1 (soundE b X c z names vs env eo hn hw.1.2).1 (soundE d X c z names vs env eo hn hw.2).1
  | .call g gp args p, X, c, z, names, vs, env, eo, hn, hw => by
    have hw := and4 hw
    obtain ⟨hq, hg⟩ := and2 hw.1.1.1
    obtain ⟨h1, h2, h3⟩ := gOk_ok hg hn
    obtain ⟨f, hf, V⟩ := z.G.fn g (by simpa using hw.1.1.2)
    have hv := L_call (gp := gp) (p := p) (z.q hq) z.F eo h1 h2 (by rw [z.G.glob g h3, hf]) V (by have := hw.1.2; intro q; rw [q] at this; simp at this) (soundL args X c z names vs env eo hn hw.2)
    rw [z.x] at hv
    exact ⟨hv, sndT_of hv fun _ => rfl⟩
  | .bi b m g gp args p, X, c, z, names, vs, env, eo, hn, hw => by
    have hw := and4 hw
    obtain ⟨hq, hg⟩ := and2 hw.1.1.1
    obtain ⟨h1, h2, h3⟩ := gOk_ok hg hn
    have hv := L_bi (m := m) (gp := gp) (p := p) (b := b) (z.q hq).1 eo h1 h2 (by rw [z.G.glob g h3]; congr 1; simpa using hw.1.1.2) (by have := hw.1.2; intro q; rw [q] at this; simp at this) (soundL args X c z names vs env eo hn hw.2)
    exact ⟨hv, sndT_of hv fun _ => rfl⟩
  | .isi e ty g gp gt tp p, X, c, z, names, vs, env, eo, hn, hw => by
    have hw := and5 hw
    obtain ⟨h1, h2, h3⟩ := gOk_ok hw.1.1.1.1 hn
    obtain ⟨k1, k2, k3⟩ := gOk_ok hw.1.1.2 hn
    have hv := L_isi (gp := gp) (tp := tp) (p := p) (ty := ty) eo h1 h2 (by rw [z.G.glob g h3]; congr 1; simpa using hw.1.1.1.2) k1 k2 (by rw [z.G.glob gt k3]; congr 1; simpa using hw.1.2) (soundE e X c z names vs env eo hn hw.2).1
    exact ⟨hv, sndT_of hv fun _ => rfl⟩
  | .isi2 e g gp g₁ p₁ g₂ p₂ k tp p, X, c, z, names, vs, env, eo, hn, hw => by
    have hw := and5 hw
    have l1 := and2 hw.1.1.2
    have l2 := and2 hw.1.2
    obtain ⟨h1, h2, h3⟩ := gOk_ok hw.1.1.1.1 hn
    obtain ⟨k1, k2, k3⟩ := gOk_ok l1.1 hn
    obtain ⟨m1, m2, m3⟩ := gOk_ok l2.1 hn
    have hv := L_isi2 (gp := gp) (p₁ := p₁) (p₂ := p₂) (k := k) (tp := tp) (p := p) eo h1 h2 (by rw [z.G.glob g h3]; congr 1; simpa using hw.1.1.1.2) k1 k2 (by rw [z.G.glob g₁ k3]; congr 1; simpa using l1.2) m1 m2 (by rw [z.G.glob g₂ m3]; congr 1; simpa using l2.2) (soundE e X c z names vs env eo hn hw.2).1
    exact ⟨hv, sndT_of hv fun _ => rfl⟩
  | .isx i ip cs os g gp gt tp p, X, c, z, names, vs, env, eo, hn, hw => by
    have hw6 := and2 hw
    have hw5 := and2 hw6.1
    have hw4 := and5 hw5.1
    obtain ⟨h1, h2, h3⟩ := gOk_ok hw4.1.1.1.1 hn
    obtain ⟨k1, k2, k3⟩ := gOk_ok hw4.1.1.2 hn
    have ty : t.gv gt = .type "ValueError" := by simpa using hw4.1.2
    have cv : t.cv = some i := by simpa using hw6.2
    have hos : os = [] := by simpa using hw5.2
    subst hos
    have hv : SndV c A t.N.nm vs env (.of fun _ σ Φ => exS cs [] X.cur fun t => Φ (.bool t) σ) (.Call (.Name (t.N.gn g) gp) [.Name (t.N.nm i) ip, .Name (t.N.gn gt) tp] [] p) := by
      cases hX : X.cur with
      | none => intro ρ σ Φ h; exact (show False from h).elim
      | some C =>
        have sb := (z.gx.sub (gt, cs, []) (by simpa using hw4.2)).1
        simp only [ty] at sb
        exact L_isx eo h1 h2 (by rw [z.G.glob g h3]; congr 1; simpa using hw4.1.1.1.2) k1 k2 (by rw [z.G.glob gt k3, ty]) (by rw [z.cu, cv, hX]; rfl) sb
    exact ⟨hv, sndT_of hv fun _ => rfl⟩
  | .sub o i p, X, c, z, names, vs, env, eo, hn, hw => by
    have hw := and2 hw
    have hv := L_sub (p := p) (emb_sub t.N i) (soundE o X c z names vs env eo hn hw.1).1 (soundE i X c z names vs env eo hn hw.2).1
    exact ⟨hv, sndT_of hv fun _ => rfl⟩
  | .slc m o lo hi sp p, X, c, z, names, vs, env, eo, hn, hw => by
    have hw := and3 hw
    have hv := L_slc (m := m) (sp := sp) (p := p) (soundE o X c z names vs env eo hn hw.1.1).1 (soundO lo X c z names vs env eo hn hw.1.2) (soundO hi X c z names vs env eo hn hw.2)
    exact ⟨hv, sndT_of hv fun _ => rfl⟩
  | .list m es p, X, c, z, names, vs, env, eo, hn, hw => by
    have hv := L_list (m := m) (p := p) (soundL es X c z names vs env eo hn hw)
    exact ⟨hv, sndT_of hv fun _ => rfl⟩
  | .tup es k p, X, c, z, names, vs, env, eo, hn, hw => by
    have hv := L_tup (k := k) (p := p) (soundL es X c z names vs env eo hn hw)
    exact ⟨hv, sndT_of hv fun _ => rfl⟩
  | .app o ap e p, X, c, z, names, vs, env, eo, hn, hw => by
    have hw := and4 hw
    have hv := L_app (p := p) hw.1.1.1 hw.1.1.2 (soundE o X c z names vs env eo hn hw.1.2).1 (soundE e X c z names vs env eo hn hw.2).1
    exact ⟨hv, sndT_of hv fun _ => rfl⟩
  | .gint g i gp, X, c, z, names, vs, env, eo, hn, hw => by
    have hw := and2 hw
    obtain ⟨h1, h2, h3⟩ := gOk_ok hw.1 hn
    have hv : SndV c A t.N.nm vs env (.of fun _ σ Φ => Φ (.int i) σ) (.Name (t.N.gn g) gp) := by
      have h4 := hw.2
      split at h4
      · rename_i j tk hj
        have : j = i := by simpa using h4
        subst this
        exact L_gint eo h1 h2 (by rw [z.G.glob g h3, hj])
      · cases h4
    exact ⟨hv, sndT_of hv fun _ => rfl⟩
  | .attr C o name p, X, c, z, names, vs, env, eo, hn, hw => by
    have hw := and3 hw
    have hv := L_attr (p := p) hw.1.1 (z.G.attr (C, name) (by simpa using hw.1.2)) (soundE o X c z names vs env eo hn hw.2).1
    exact ⟨hv, sndT_of hv fun _ => rfl⟩
  | .meth C g o name ap args p, X, c, z, names, vs, env, eo, hn, hw => by
    have hw := and6 hw
    obtain ⟨hq, hline⟩ := and2 hw.1.1.1.1.1
    obtain ⟨f, hf, V⟩ := z.G.meth (C, name, g) (by simpa using hw.1.1.1.2)
    have hv := L_meth (z.q hq) z.F hline hw.1.1.1.1.2 (Nat.le_of_ble_eq_true hw.1.1.2) hf V (soundE o X c z names vs env eo hn hw.1.2).1 (soundL args X c z names vs env eo hn hw.2)
    rw [z.x] at hv
    exact ⟨hv, sndT_of hv fun _ => rfl⟩
  | .new C gi g gp args p, X, c, z, names, vs, env, eo, hn, hw => by
    have hw := and4 hw
    obtain ⟨hq, hg⟩ := and2 hw.1.1.1
    obtain ⟨h1, h2, h3⟩ := gOk_ok hg hn
    obtain ⟨f, m, hm, hf, V⟩ := z.G.new (C, gi) (by simpa using hw.1.2)
    have hv := L_new (gp := gp) (p := p) ((z.q hq).le hm) z.F eo h1 h2 (by rw [z.G.glob g h3]; congr 1; simpa using hw.1.1.2) hf V (soundL args X c z names vs env eo hn hw.2)
    rw [z.x] at hv
    exact ⟨hv, sndT_of hv fun _ => rfl⟩
  | .lm k o ap args p, X, c, z, names, vs, env, eo, hn, hw => by
    have hw := and5 hw
    have hv := L_lm (k := k) hw.1.1.1.1 hw.1.1.1.2 (Nat.le_of_ble_eq_true hw.1.1.2) (soundE o X c z names vs env eo hn hw.1.2).1 (soundL args X c z names vs env eo hn hw.2)
    exact ⟨hv, sndT_of hv fun _ => rfl⟩
  | .dct p, X, c, z, names, vs, env, eo, hn, hw => by
    have hv : SndV c A t.N.nm vs env (.of fun _ σ Φ => ∀ a, freshIn σ a → Φ (.obj a) (σ.set a (.mdict []))) (.Dict [] [] p) := L_dct
    exact ⟨hv, sndT_of hv fun _ => rfl⟩
  | .subd o i p, X, c, z, names, vs, env, eo, hn, hw => by
    have hw := and2 hw
    have hv := L_subd (p := p) (emb_sub t.N i) (soundE o X c z names vs env eo hn hw.1).1 (soundE i X c z names vs env eo hn hw.2).1
    exact ⟨hv, sndT_of hv fun _ => rfl⟩
  | .skeys m g gp o ap p' p, X, c, z, names, vs, env, eo, hn, hw => by
    have hw := and5 hw
    obtain ⟨hq, hg⟩ := and2 hw.1.1.1.1
    obtain ⟨h1, h2, h3⟩ := gOk_ok hg hn
    have hv := L_skeys (m := m) (gp := gp) (ap := ap) (p' := p') (p := p) (z.q hq).1 eo h1 h2 (by rw [z.G.glob g h3]; congr 1; simpa using hw.1.1.1.2) hw.1.1.2 hw.1.2 (soundE o X c z names vs env eo hn hw.2).1
    exact ⟨hv, sndT_of hv fun _ => rfl⟩
  | .comp m elt x xp it ifs sc fr p, X, c, z, names, vs, env, eo, hn, hw => by
    have hw := and4 hw
    obtain ⟨hq, hwi⟩ := and2 hw.1.1.1
    have co := compChk_ok hw.1.1.2 hn
    have hv : SndV c A t.N.nm vs env (.of fun ρ σ Φ => vcI S X it ρ σ fun d ds σ₁ => ds.length ≤ small ∧
      compS (fun e σ' K => ifsT (vcL S noX ifs) ((ρ.only fr).put x e) σ' fun b σ'' => (b = true → (vc S noX elt).v ((ρ.only fr).put x e) σ'' fun r σ₃ => K (some r) σ₃) ∧ (b = false → K Option.none σ'')) (keepS d ds) ds σ₁ []
        fun out σ₂ => mkS m out σ₂ Φ) (.ListComp (emb t.N elt) [⟨.Name (t.N.nm x) xp, embI t.N it, embL t.N ifs, 0⟩] sc p) := fun ρ σ Φ h =>
      R_comp (embI_fold _ _ _) co eo (soundI it X c z names vs env eo hn hwi) (fun C E₁ σa Pa sa => (soundE elt noX _ (z.block hq E₁ _ σa Pa sa) sc.names (x :: fr) _ (co.envOk eo C) (nm_block co _ C) hw.1.2).1) (fun C E₁ σa Pa sa => soundL ifs noX _ (z.block hq E₁ _ σa Pa sa) sc.names (x :: fr) _ (co.envOk eo C) (nm_block co _ C) hw.2) h
    exact ⟨hv, sndT_of hv fun _ => rfl⟩
theorem soundL : ∀ (es : List PE) (X : Exs) (c : Cx) (z : At n t S X c A) (names : List (Str × NameKind)) (vs : List Nat) (env : Env), EnvOk t.N.nm vs env → Nm env names → wfL t names vs es = true → SndL c A t.N.nm vs env (vcL S X es) (embL t.N es)
  | [], X, c, z, names, vs, env, eo, hn, hw => .nil
  | e :: r, X, c, z, names, vs, env, eo, hn, hw => by
    have hw := and2 hw
    exact .cons (soundE e X c z names vs env eo hn hw.1).1 (soundE e X c z names vs env eo hn hw.1).2 (soundL r X c z names vs env eo hn hw.2)
theorem soundO : ∀ (o : Option PE) (X : Exs) (c : Cx) (z : At n t S X c A) (names : List (Str × NameKind)) (vs : List Nat) (env : Env), EnvOk t.N.nm vs env → Nm env names → wfO t names vs o = true → SndO c A t.N.nm vs env (vcO S X o) (embO t.N o)
  | Option.none, X, c, z, names, vs, env, eo, hn, hw => by
    intro ρ σ Φ h P s g Q hQ
    show wpAny c.M A (evalPart Option.none env) Q c.E s
    rw [evalPart_none]
    exact wpAny_pure (hQ _ _ σ s h (Step.refl _ _ _ _) g.st (.inl ⟨rfl, rfl⟩))
  | some e, X, c, z, names, vs, env, eo, hn, hw => by
    intro ρ σ Φ h P s g Q hQ
    show wpAny c.M A (evalPart (some (emb t.N e)) env) Q c.E s
    rw [evalPart_some]
    exact (soundE e X c z names vs env eo hn hw).1 ρ σ _ h P s g _ fun v d σ' s' hd st ok hr => hQ v (some d) σ' s' hd st ok (.inr ⟨d, rfl, hr⟩)
theorem soundI : ∀ (it : IT) (X : Exs) (c : Cx) (z : At n t S X c A) (names : List (Str × NameKind)) (vs : List Nat) (env : Env), EnvOk t.N.nm vs env → Nm env names → wfI t names vs it = true → SndI c A t.N.nm vs env (vcI S X it) (embI t.N it)
  | .of e, X, c, z, names, vs, env, eo, hn, hw => by
    have hw := and2 hw
    have := L_of (z.q hw.1).1 (soundE e X c z names vs env eo hn hw.2).1
    intro ρ σ Φ h
    exact this ρ σ Φ h
  | .range g gp e p, X, c, z, names, vs, env, eo, hn, hw => by
    have hw := and3 hw
    obtain ⟨hq, hg⟩ := and2 hw.1.1
    obtain ⟨h1, h2, h3⟩ := gOk_ok hg hn
    have := L_range (gp := gp) (p := p) (z.q hq).1 eo h1 h2 (by rw [z.G.glob g h3]; congr 1; simpa using hw.1.2) (soundE e X c z names vs env eo hn hw.2).1
    intro ρ σ Φ h
    exact this ρ σ Φ h
end
end
end Mine
end
section
open PySem PySem.W PyProof.Rows
set_option Elab.async false
set_option linter.unusedVariables false
namespace Mine

theorem swaps_no (N : Nms) (e : PE) (tg : Expr) (l : Nat) (env : Env) (h : ∀ m elt x xp it ifs sc fr p, e ≠ .comp m elt x xp it ifs sc fr p) : swapsWith (emb N e) (some tg) l env = pure false := by
  cases e <;> first | rfl | exact absurd rfl (h _ _ _ _ _ _ _ _ _)

theorem swaps_no' (N : Nms) (e : PE) (tg : Expr) (l : Nat) (env : Env) (h : isComp e = false) : swapsWith (emb N e) (some tg) l env = pure false :=
  swaps_no N e tg l env fun m elt x xp it ifs sc fr p q => by subst q; cases h

section
variable {c : Cx} {A : Around} {nm : Nat → Str} {vs : List Nat} {env : Env}

theorem R_assign {x : Nat} {xp p : Pos} {value : Expr} {ρ : PEnv} {σ : Store} {Φ : Res → Prop} (eo : EnvOk nm vs env) (hx : x ∈ vs) (hff : ∀ a, FrA env a → c.F₀ a) (hcx : ∀ C, c.cur ≠ some (x, C)) (hs : swapsWith value (some (.Name (nm x) xp)) p.line env = pure false)
    (h : WPv c A nm vs env ρ σ (eval value env) fun d σ' => Φ (.next (ρ.put x d) σ')) : WPs c A nm vs env ρ σ (exec (.Assign [.Name (nm x) xp] value p) env) Φ := by
  intro P s g Q hQ
  refine wpAny_Assign_Name (h P s g _ fun v d σ₁ s₁ hd st₁ ok₁ r₁ => ?_) hs
  refine store_sound eo hx hff hcx (g.next st₁ ok₁) r₁ fun s₂ st₂ g₂ => ?_
  exact hQ .next s₂ _ hd ((st₁.weak fun _ h => h.elim).trans st₂) ⟨rfl, g₂⟩

/-- from an own activation of the frame back to the frame's place -/
theorem Cx.back (hfe : Front c.l env) (hw0 : ∀ a, WL c.l a → c.P₀ a) : ∀ e C σ' s', c.X C σ' → Step (WL c.l) c.F₀ c.σ₀ σ' c.s₀ s' → StoreOk σ' c.P₀ s'.heap → Frs s'.heap c.l → Held c.l c.s₀.heap e C s'.heap → cameBackBy c.M A env c.E (.ref e) s' := by
  intro e C σ' s' hX st ok fr held
  obtain ⟨r, L, hl, hL⟩ := hfe
  refine came_any (h₀ := c.s₀.heap) (C := C) hL (by rw [← hl]; exact fr) (by rw [← hl]; exact held) fun h' held' kp => ?_
  rw [← hl] at held' kp
  exact c.exc e C σ' _ hX (kp_step st kp) (kp_store ok kp hw0) (kp_frs fr kp) held'.fly

theorem R_for {x : Nat} {xp p : Pos} {iter : Expr} {body : List Stmt} {tr : PEnv → Store → (D → List D → Store → Prop) → Prop} {bt : PEnv → Store → (Res → Prop) → Prop} (hs : ∀ v, foldedSetIterable iter env v = pure v) (eo : EnvOk nm vs env) (hx : x ∈ vs)
    (hff : ∀ a, FrA env a → c.F₀ a) (hcu : c.cur = none) (hF : A.frames = some c.l) (hfe : Front c.l env) (hw0 : ∀ a, WL c.l a → c.P₀ a) (hi : SndI c A nm vs env tr iter) (hb : ∀ R hRE ρ σ Φ, bt ρ σ Φ → WPs (c.loop A env R hF hfe hRE hw0) A nm vs env ρ σ (execs body env) Φ) {ρ : PEnv} {σ : Store} {Φ : Res → Prop}
    (h : tr ρ σ fun d ds σ₁ => forS (fun e ρ' σ' Ψ => bt (ρ'.put x e) σ' Ψ) (keepS d ds) ds ρ σ₁ Φ) : WPs c A nm vs env ρ σ (exec (.For (.Name (nm x) xp) iter body [] p) env) Φ := by
  intro P s g Q hQ
  refine wpAny_For ?_ hs
  refine hi ρ σ _ h P s g _ fun xv d ds σ₁ s₁ hΦ st₁ ok₁ itv => ?_
  obtain ⟨v, hr, hk, hit⟩ := itv
  have g₁ := g.next st₁ ok₁
  refine hit _ _ fun I ok It s₂ hI kp T it hok => ?_
  have st₂ : Step c.W (FrA env) σ₁ σ₁ s₁ s₂ := Step.of_keeps kp
  have g₂ : Good c nm vs env ρ σ₁ P s₂ := g₁.next (Step.of_keeps kp) (g₁.st.keeps (keeps_heap kp))
  refine for_sound T (fun σ' s' a b e => hok σ' P s' a b e) eo hx hff hcu (hRE := Cx.back hfe hw0) (hstep := fun e ρ' σ' Ψ hb' => hb _ (Cx.back hfe hw0) _ _ _ hb') g₁ hI st₂ g₂ it (hr.keeps (keeps_heap kp)) hk hΦ fun f s' r hr' st ro => ?_
  exact hQ f s' r hr' ((st₁.weak fun _ h => h.elim).trans st) ro
end

/-- a place where statements may be run -/
structure AtS (n : Nat) (t : Tb) (S : Nat → Spec) (X : Exs) (c : Cx) (A : Around) (env : Env) : Prop extends At n t S X c A where
  st : t.st = true → ∀ a, FrA env a → c.F₀ a
  fr : Front c.l env
  w0 : ∀ a, WL c.l a → c.P₀ a
theorem AtS.loop {n t S X c A env} (z : AtS n t S X c A env) (R hRE) : AtS n t S X (c.loop A env R z.F z.fr hRE z.w0) A env := ⟨⟨z.G, z.gx, z.q, z.qc, z.u, z.F, z.x, z.cu⟩, z.st, z.fr, z.w0⟩
/-- the same tables in a try's body, in a handler -/
theorem GT.in {c : Bx} {n : Nat} {t : Tb} {S : Nat → Spec} (G : GT c n t S) (q st : Bool) (cv : Option Nat) : GT c n { t with q := q, st := st, cv := cv } S := ⟨G.glob, G.fn, G.attr, G.set, G.meth, G.new⟩
theorem GX.in {c : Bx} {t : Tb} (G : GX c t) (q st : Bool) (cv : Option Nat) : GX c { t with q := q, st := st, cv := cv } := ⟨G.exc, G.sub⟩
theorem AtS.tri {n t S X c A env} (z : AtS n t S X c A env) (hq : t.q = true) {E' X' σ s P hE} (hw : ∀ a, WL c.l a → P a) : AtS n { t with st := false } S ⟨X', Option.none⟩ (c.tri E' X' σ s P hE) A env :=
  ⟨⟨z.G.in _ _ _, z.gx.in _ _ _, z.q, z.qc, z.u, z.F, rfl, by show (Option.none : Option (Nat × Addr)) = t.cv.bind _; rw [z.qc hq]; rfl⟩, fun h => (by cases h), z.fr, hw⟩
theorem At.hand {n t S X c A} (z : At n t S X c A) (E' : Value → Shared → Prop) (cv : Option Nat) (C : Option Addr) (e : Value) : At n { t with q := false, cv := cv } S ⟨fun _ _ => False, C⟩ (c.hand E' (cv.bind fun i => C.map fun C => (i, C))) (A.mark (some e)) :=
  ⟨z.G.in _ _ _, z.gx.in _ _ _, fun h => (by cases h), fun h => (by cases h), z.u, z.F, rfl, rfl⟩

section
variable {n : Nat} {S : Nat → Spec}
theorem sound_assign {t : Tb} {A : Around} {X : Exs} {c : Cx} (x : Nat) (xp : Pos) (e : PE) (p : Pos) (names : List (Str × NameKind)) (vs : List Nat) (env : Env) (z : AtS n t S X c A env) (eo : EnvOk t.N.nm vs env) (hn : Nm env names) (hw : wfS t names vs (.assign x xp e p) = true) (ρ : PEnv) (σ : Store) (Φ : Res → Prop)
    (h : vcS S X (.assign x xp e p) ρ σ Φ) : WPs c A t.N.nm vs env ρ σ (exec (embS t.N (.assign x xp e p)) env) Φ := by
  have hw := and2 hw
  have hw1 := and3 hw.1
  have hx : x ∈ vs := by simpa using hw1.1.2
  have hff := z.st hw1.1.1
  have hcx : ∀ C, c.cur ≠ some (x, C) := fun C q => by
    rw [z.cu] at q
    have hne : t.cv ≠ some x := by simpa using hw1.2
    cases e1 : t.cv with
    | none => rw [e1] at q; cases q
    | some i =>
      rw [e1] at q
      cases e2 : X.cur with
      | none => rw [e2] at q; cases q
      | some C' => rw [e2] at q; cases q; exact hne e1
  by_cases hc : ∃ m elt y yp it ifs sc fr q, e = .comp m elt y yp it ifs sc fr q
  · obtain ⟨m, elt, y, yp, it, ifs, sc, fr, q, rfl⟩ := hc
    have hw2 := hw.2
    have hsnd := (soundE (.comp m elt y yp it ifs sc fr q) X c z.toAt names vs env eo hn hw2).1
    have hw2 := and4 hw2
    obtain ⟨hq, hwi⟩ := and2 hw2.1.1.1
    have co := compChk_ok hw2.1.1.2 hn
    obtain ⟨b, hb⟩ : ∃ b, swapsWith (.ListComp (emb t.N elt) [⟨.Name (t.N.nm y) yp, embI t.N it, embL t.N ifs, 0⟩] sc q) (some (.Name (t.N.nm x) xp)) p.line env = pure b := ⟨_, rfl⟩
    cases b with
    | true =>
      exact R_assign_comp (embI_fold _ _ _) hb hx hff (z.cur hq) co eo (soundI it X c z.toAt names vs env eo hn hwi) (fun C E₁ σa Pa sa => (soundE elt noX _ (z.block hq E₁ _ σa Pa sa) sc.names (y :: fr) _ (co.envOk eo C) (nm_block co _ C) hw2.1.2).1) (fun C E₁ σa Pa sa => soundL ifs noX _ (z.block hq E₁ _ σa Pa sa) sc.names (y :: fr) _ (co.envOk eo C) (nm_block co _ C) hw2.2) h
    | false => exact R_assign eo hx hff hcx hb (hsnd ρ σ _ h)
  · exact R_assign eo hx hff hcx (swaps_no t.N e _ _ env fun m elt y yp it ifs sc fr q e' => hc ⟨m, elt, y, yp, it, ifs, sc, fr, q, e'⟩) ((soundE e X c z.toAt names vs env eo hn hw.2).1 ρ σ _ h)

mutual
theorem soundS : ∀ (st : PS) (t : Tb) (A : Around) (X : Exs) (c : Cx) (names : List (Str × NameKind)) (vs : List Nat) (env : Env) (z : AtS n t S X c A env), EnvOk t.N.nm vs env → Nm env names → wfS t names vs st = true → ∀ ρ σ Φ, vcS S X st ρ σ Φ → WPs c A t.N.nm vs env ρ σ (exec (embS t.N st) env) Φ
  | .assign x xp e p, t, A, X, c, names, vs, env, z, eo, hn, hw, ρ, σ, Φ, h => sound_assign x xp e p names vs env z eo hn hw ρ σ Φ h
  | .expr e p, t, A, X, c, names, vs, env, z, eo, hn, hw, ρ, σ, Φ, h => by
    have hw := and2 hw
    intro P s g Q hQ
    refine wpAny_Expr_any ((soundE e X c z.toAt names vs env eo hn hw.2).1 ρ σ _ h P s g _ fun v d σ' s' hd st ok hr => ?_) (by unfold interactive; rw [eo.kind]; rfl) ?_
    · exact hQ .next s' _ hd (st.weak fun _ h => h.elim) ⟨rfl, g.next st ok⟩
    · have := hw.1
      cases e <;> first | rfl | cases this
  | .ite e b o p, t, A, X, c, names, vs, env, z, eo, hn, hw, ρ, σ, Φ, h => by
    have hw := and3 hw
    intro P s g Q hQ
    refine wpAny_If ((soundE e X c z.toAt names vs env eo hn hw.1.1).2 ρ σ _ h P s g _ fun d σ₁ s₁ hd st₁ ok₁ => ?_)
    have g₁ := g.next st₁ ok₁
    have k : ∀ f s' r, Φ r → Step c.W (FrA env) σ₁ r.sto s₁ s' → ResOk c t.N.nm vs env P r f s' → Q f s' := fun f s' r hr st ro => hQ f s' r hr ((st₁.weak fun _ h => h.elim).trans st) ro
    cases d with
    | true => simp only [if_true]; exact soundSs b t A X c names vs env z eo hn hw.1.2 ρ σ₁ Φ (hd.1 rfl) P s₁ g₁ Q k
    | false => simp only [Bool.false_eq_true, if_false]; exact soundSs o t A X c names vs env z eo hn hw.2 ρ σ₁ Φ (hd.2 rfl) P s₁ g₁ Q k
  | .loop x xp it b p, t, A, X, c, names, vs, env, z, eo, hn, hw, ρ, σ, Φ, h => by
    have hw := and3 hw
    have hw1 := and3 hw.1.1
    exact R_for (embI_fold _ _ _) eo (by simpa using hw1.2) (z.st hw1.1.2) (z.cur hw1.1.1) z.F z.fr z.w0 (soundI it X c z.toAt names vs env eo hn hw.1.2) (fun R hRE ρ' σ' Φ' h' => soundSs b t A X _ names vs env (z.loop R hRE) eo hn hw.2 ρ' σ' Φ' h') h
  | .ret e p, t, A, X, c, names, vs, env, z, eo, hn, hw, ρ, σ, Φ, h => by
    intro P s g Q hQ
    exact wpAny_Return_some ((soundE e X c z.toAt names vs env eo hn hw).1 ρ σ _ h P s g _ fun v d σ' s' hd st ok hr => hQ (.ret v) s' _ hd (st.weak fun _ h => h.elim) ⟨v, rfl, ok, hr⟩)
  | .sattr C o name ap e p, t, A, X, c, names, vs, env, z, eo, hn, hw, ρ, σ, Φ, h => by
    have hw := and4 hw
    exact R_sattr (fun l tg => swaps_no' t.N e tg l env (by simpa using hw.1.1.1)) (z.G.set (C, name) (by simpa using hw.1.1.2)) (soundE o X c z.toAt names vs env eo hn hw.1.2).1 (soundE e X c z.toAt names vs env eo hn hw.2).1 h
  | .ssub o i sp e p, t, A, X, c, names, vs, env, z, eo, hn, hw, ρ, σ, Φ, h => by
    have hw := and4 hw
    exact R_ssub (fun l tg => swaps_no' t.N e tg l env (by simpa using hw.1.1.1)) (soundE o X c z.toAt names vs env eo hn hw.1.1.2).1 (soundE i X c z.toAt names vs env eo hn hw.1.2).1 (soundE e X c z.toAt names vs env eo hn hw.2).1 h
  | .raise C g gp m mp cp p, t, A, X, c, names, vs, env, z, eo, hn, hw, ρ, σ, Φ, h => by
    have hw := and2 hw
    obtain ⟨hq, hg⟩ := and2 hw.1
    obtain ⟨h1, h2, h3⟩ := gOk_ok hg hn
    obtain ⟨hv, bm, bmB, n1, n2, O⟩ := z.gx.exc (g, C) (by simpa using hw.2)
    exact R_raise (z.q hq).1 eo h1 h2 (by rw [z.G.glob g h3, hv]) O (by rw [z.x]; exact h)
  | .try b hs p, t, A, X, c, names, vs, env, z, eo, hn, hw, ρ, σ, Φ, h => by
    have hw := and4 hw
    have hH := soundHs hs t A X c names vs env z hw.1.1.1 eo hn hw.2 ρ Φ
    cases hs with
    | nil => exact absurd hw.1.1.2 (by simp)
    | cons hd r =>
      cases hd with
      | mk cs os g gp b' p' => exact R_try (z.cur hw.1.1.1) z.F z.fr (fun E' s P hE hwP => soundSs b { t with st := false } A ⟨_, Option.none⟩ _ names vs env (z.tri hw.1.1.1 hwP) eo hn hw.1.2 ρ σ Φ h) hH
      | as cs os g gp x e rp p' => exact R_try (z.cur hw.1.1.1) z.F z.fr (fun E' s P hE hwP => soundSs b { t with st := false } A ⟨_, Option.none⟩ _ names vs env (z.tri hw.1.1.1 hwP) eo hn hw.1.2 ρ σ Φ h) hH
theorem soundHs : ∀ (hs : List HD) (t : Tb) (A : Around) (X : Exs) (c : Cx) (names : List (Str × NameKind)) (vs : List Nat) (env : Env) (z : AtS n t S X c A env), t.q = true → EnvOk t.N.nm vs env → Nm env names → wfHs t names vs hs = true → ∀ ρ Φ, SndH c A t.N.nm vs env ρ Φ (embHs t.N hs) (vcHs S X hs ρ Φ)
  | [], t, A, X, c, names, vs, env, z, hq, eo, hn, hw, ρ, Φ => H_nil
  | .mk cs os g gp b p :: r, t, A, X, c, names, vs, env, z, hq, eo, hn, hw, ρ, Φ => by
    have hw := and5 hw
    obtain ⟨h1, h2, h3⟩ := gOk_ok hw.1.1.1.1 hn
    have sb := z.gx.sub (g, cs, os) (by simpa using hw.1.1.1.2)
    have hr := soundHs r t A X c names vs env z hq eo hn hw.2 ρ Φ
    have hb := soundSs b { t with q := false, cv := Option.none }
    cases b with
    | nil => exact absurd hw.1.1.2 (by simp)
    | cons b₀ bs => exact H_mk (tb := fun C σ => vcSs S noX (b₀ :: bs) ρ σ Φ) (z.cur hq) eo h1 h2 (z.G.glob g h3) sb.1 sb.2 (fun e C E' σ hΦ => hb (A.mark (some (.ref e))) noX (c.hand E' Option.none) names vs env ⟨z.hand E' Option.none Option.none _, z.st, z.fr, z.w0⟩ eo hn hw.1.2 ρ σ Φ hΦ) hr
  | .as cs os g gp x e rp p :: r, t, A, X, c, names, vs, env, z, hq, eo, hn, hw, ρ, Φ => by
    have hw7 := and2 hw
    have hw6 := and6 hw7.1
    obtain ⟨h1, h2, h3⟩ := gOk_ok hw6.1.1.1.1.1 hn
    have sb := z.gx.sub (g, cs, os) (by simpa using hw6.1.1.1.1.2)
    have hr := soundHs r t A X c names vs env z hq eo hn hw7.2 ρ Φ
    exact H_as (te := fun C σ Ψ => (vc S ⟨fun _ _ => False, some C⟩ e).v ρ σ Ψ) (z.cur hq) (z.st hw6.1.2) eo (by simpa using hw6.1.1.1.2) (hn.loc _ (by simpa using hw6.1.1.2)) h1 h2 (z.G.glob g h3) sb.1 sb.2
      (fun a C E' σ Ψ hΨ => (soundE (t := { t with q := false, cv := some x }) e ⟨fun _ _ => False, some C⟩ (c.hand E' (some (x, C))) (z.hand E' (some x) (some C) _) names vs env eo hn hw6.2).1 ρ σ Ψ hΨ) hr
theorem soundSs : ∀ (ss : List PS) (t : Tb) (A : Around) (X : Exs) (c : Cx) (names : List (Str × NameKind)) (vs : List Nat) (env : Env) (z : AtS n t S X c A env), EnvOk t.N.nm vs env → Nm env names → wfSs t names vs ss = true → ∀ ρ σ Φ, vcSs S X ss ρ σ Φ → WPs c A t.N.nm vs env ρ σ (execs (embSs t.N ss) env) Φ
  | [], t, A, X, c, names, vs, env, z, eo, hn, hw, ρ, σ, Φ, h => by
    intro P s g Q hQ
    exact wpAny_execs_nil (hQ .next s _ h (Step.refl _ _ _ _) ⟨rfl, g⟩)
  | st :: r, t, A, X, c, names, vs, env, z, eo, hn, hw, ρ, σ, Φ, h => by
    have hw := and2 hw
    intro P s g Q hQ
    refine wpAny_execs_cons (soundS st t A X c names vs env z eo hn hw.1 ρ σ _ h P s g _ fun f s₁ res hres st₁ ro => ?_)
    cases res with
    | next ρ' σ' =>
      obtain ⟨rfl, g₁⟩ := ro
      exact soundSs r t A X c names vs env z eo hn hw.2 ρ' σ' Φ hres P s₁ g₁ Q fun f s' r' hr st ro => hQ f s' r' hr (st₁.trans st) ro
    | ret d σ' =>
      obtain ⟨u, rfl, h1, h2⟩ := ro
      exact hQ (.ret u) s₁ _ hres st₁ ⟨u, rfl, h1, h2⟩
    | brk ρ' σ' =>
      obtain ⟨rfl, g₁⟩ := ro
      exact hQ .brk s₁ _ hres st₁ ⟨rfl, g₁⟩
    | cont ρ' σ' =>
      obtain ⟨rfl, g₁⟩ := ro
      exact hQ .cont s₁ _ hres st₁ ⟨rfl, g₁⟩
end
end
end Mine
end
section
open PySem PySem.W PyProof.Rows
set_option Elab.async false
set_option linter.unusedVariables false
namespace Mine

theorem WL.cons {env : Env} {l : List Env} {a : Addr} : WL (env :: l) a ↔ env.frame = some a ∨ WL l a := by
  unfold WL
  constructor
  · rintro ⟨e, he, hf⟩
    rcases List.mem_cons.mp he with rfl | he
    · exact .inl hf
    · exact .inr ⟨e, he, hf⟩
  · rintro (hf | ⟨e, he, hf⟩)
    · exact ⟨env, List.mem_cons_self, hf⟩
    · exact ⟨e, List.mem_cons_of_mem _ he, hf⟩
theorem Step.leave {F : Addr → Prop} {env : Env} {l : List Env} {σ σ' : Store} {s s₁ s' : Shared} (k : Keeps s s₁) (x : Step (WL (env :: l)) F σ σ' s₁ s') (hf : ∀ a, F a → s.heap.get? a = Option.none) (hl : ∀ a, env.frame = some a → s.heap.get? a = Option.none) : Step (WL l) noF σ σ' s s' := by
  obtain ⟨h₁, t₁, rfl, hk⟩ := k
  refine ⟨?_, fun a o e hd _ hw => x.keep a o (hk a o e) hd (fun q => by rw [hf a q] at e; cases e) (fun q => ?_), fun a o e hw hd _ => x.slot a o (hk a o e) (WL.cons.mpr (.inr hw)) hd (fun q => by rw [hf a q] at e; cases e), fun a o e => x.alive a o (hk a o e), fun a ha => (x.new a ha).imp id fun e => ?_⟩
  · obtain ⟨h₂, t₂, rfl⟩ := x.same
    exact ⟨h₂, t₂, rfl⟩
  · rcases WL.cons.mp q with q | q
    · rw [hl a q] at e; cases e
    · exact hw q
  · cases q : s.heap.get? a with
    | none => rfl
    | some o => have := hk a o q; simp only at e; rw [this] at e; cases e

/-- an exception leaves the foremost frame -/
theorem leave_any {M : Model} {A : Around} {E : Value → Shared → Prop} {s : Shared} {h₀ : Heap} {env : Env} {r : List Env} {L e C : Addr} {Q : Unit → Shared → Prop} (hfr : A.frames = some (env :: r)) (hf : env.frame = some L) (fr : Frs s.heap (env :: r)) (hl : ∀ a o, h₀.get? a = some o → ∃ o', s.heap.get? a = some o') (x : Fly (env :: r) h₀ e C s.heap)
    (hQ : ∀ h', Fly r h₀ e C h' → Kp h₀ (env :: r) s.heap h' → Q () { s with heap := h' }) : wpAny M A (leaving env (.ref e)) Q E s := by
  unfold leaving
  refine wpAny_bind (note_any hfr hf fr hl x fun h₁ held kp₁ => ?_)
  obtain ⟨hnew, env', r', L', a0, q1, q2, htr⟩ := held
  refine land_any (l := env :: r) (kp_frs fr kp₁) htr fun h₂ htr₂ kp₂ => ?_
  exact hQ h₂ ⟨hnew, .inr ⟨a0, .none, htr₂, .inl rfl⟩⟩ (kp₁.trans kp₂)

/-- a part of a store -/
noncomputable def Sub (σ' σ : Store) : Prop := ∀ a m, σ' a = some m → σ a = some m
theorem Sub.dom {σ' σ : Store} (h : Sub σ' σ) {a : Addr} (x : dom σ' a) : Mine.dom σ a := by
  rcases x with x | ⟨y, C, fs, x⟩
  · cases e : σ' a with
    | none => exact absurd e x
    | some m => exact .inl (by rw [h a m e]; exact Option.some_ne_none m)
  · exact .inr ⟨y, C, fs, h _ _ x⟩
theorem sub_none {σ' σ : Store} (h : Sub σ' σ) {a : Addr} (e : σ a = Option.none) : σ' a = Option.none := by
  cases q : σ' a with
  | none => rfl
  | some m => rw [h _ _ q] at e; cases e
theorem StoreOk.sub {σ' σ : Store} {P : Addr → Prop} {h : Heap} (ok : StoreOk σ P h) (hs : Sub σ' σ) : StoreOk σ' P h :=
  ⟨fun a mo e => MRep.stay (fun b o hN ho _ => ⟨ho, fun q => hN.1 (hs.dom q), hN.2⟩) (fun _ _ _ ho => ho) (ok.rep a mo (hs a mo e)),
    fun x C dx fs e => ⟨sub_none hs (ok.apart x C dx fs (hs _ _ e)).1, fun y C' fs' e' => (ok.apart x C dx fs (hs _ _ e)).2 y C' fs' (hs _ _ e')⟩, fun a ha => ok.free a (hs.dom ha)⟩
theorem Rep.sub {σ' σ : Store} {P : Addr → Prop} {h : Heap} {d : D} {v : Value} (hs : Sub σ' σ) (x : Rep (nd σ P) h d v) : Rep (nd σ' P) h d v := Rep.stay (fun b o hN ho _ => ⟨ho, fun q => hN.1 (hs.dom q), hN.2⟩) _ _ x
theorem RepL.sub {σ' σ : Store} {P : Addr → Prop} {h : Heap} {d : List D} {v : List Value} (hs : Sub σ' σ) (x : RepL (nd σ P) h d v) : RepL (nd σ' P) h d v := RepL.stay (fun b o hN ho _ => ⟨ho, fun q => hN.1 (hs.dom q), hN.2⟩) _ _ x

/-- at a return: parts of the store are let go; a list that was the store's becomes plain -/
noncomputable def Frz (d : D) (σ : Store) (d' : D) (σ' : Store) : Prop := Sub σ' σ ∧ (d' = d ∨ ∃ a ds, d = .obj a ∧ σ a = some (.mlist ds) ∧ d' = .list ds ∧ σ' a = Option.none)
theorem frz_ok {d d' : D} {σ σ' : Store} {P : Addr → Prop} {h : Heap} {v : Value} (f : Frz d σ d' σ') (ok : StoreOk σ P h) (hr : Rep (nd σ P) h d v) : StoreOk σ' P h ∧ Rep (nd σ' P) h d' v := by
  refine ⟨ok.sub f.1, ?_⟩
  rcases f.2 with rfl | ⟨a, ds, rfl, hm, rfl, hn⟩
  · exact hr.sub f.1
  · simp only [Rep] at hr ⊢
    obtain ⟨us, hl, hw⟩ := ok.rep a _ hm
    refine ⟨a, us, hr, ⟨fun q => ?_, ok.free a (.inl (by rw [hm]; exact Option.some_ne_none _))⟩, hl.isList, hw.sub f.1⟩
    rcases q with q | ⟨y, C, fs, q⟩
    · exact q hn
    · have := (ok.apart y C a fs (f.1 _ _ q)).1
      rw [hm] at this; cases this

/-- what a body's result is for the caller -/
noncomputable def retS (Φ : D → Store → Prop) : Res → Prop
  | .ret d σ => ∃ d' σ', Frz d σ d' σ' ∧ Φ d' σ'
  | .next _ σ => ∃ σ', Sub σ' σ ∧ Φ .none σ'
  | _ => False

theorem Sub.refl (σ : Store) : Sub σ σ := fun _ _ e => e
theorem retS_ret {Φ : D → Store → Prop} {d : D} {σ : Store} (h : Φ d σ) : retS Φ (.ret d σ) := ⟨d, σ, ⟨Sub.refl σ, .inl rfl⟩, h⟩

/-- the same for what is raised -/
noncomputable def retX (X : Addr → Store → Prop) (C : Addr) (σ : Store) : Prop := ∃ σ', Sub σ' σ ∧ X C σ'

/-! ### the call of a def -/
noncomputable def initGo : Nat → List (Nat × D) → PEnv
  | 0, _ => []
  | k + 1, l => initGo k l ++ [l.lookup k]
/-- the frame's names at the start: parameters ps with ds, nv names in all -/
noncomputable def initE (ps : List Nat) (ds : List D) (nv : Nat) : PEnv := initGo nv (ps.zip ds)

theorem at_append : ∀ (ρ ρ' : PEnv) (i : Nat) (d : D), PEnv.at (ρ ++ ρ') i = some d → (i < ρ.length ∧ ρ.at i = some d) ∨ (ρ.length ≤ i ∧ PEnv.at ρ' (i - ρ.length) = some d)
  | [], ρ', i, d, h => .inr ⟨Nat.zero_le _, by simpa using h⟩
  | e :: r, ρ', 0, d, h => .inl ⟨by simp, by simpa [PEnv.at] using h⟩
  | e :: r, ρ', i + 1, d, h => by
    have h' : PEnv.at (r ++ ρ') i = some d := by simpa [PEnv.at] using h
    rcases at_append r ρ' i d h' with ⟨a, b⟩ | ⟨a, b⟩
    · exact .inl ⟨by simp; omega, by simpa [PEnv.at] using b⟩
    · exact .inr ⟨by simp; omega, by simpa using b⟩
theorem initGo_length : ∀ k l, (initGo k l).length = k
  | 0, _ => rfl
  | k + 1, l => by simp [initGo, initGo_length k l]
theorem initGo_at : ∀ (k : Nat) (l : List (Nat × D)) (i : Nat) (d : D), (initGo k l).at i = some d → l.lookup i = some d
  | 0, l, i, d, h => by simp [initGo, PEnv.at] at h
  | k + 1, l, i, d, h => by
    simp only [initGo] at h
    rcases at_append _ _ _ _ h with ⟨a, b⟩ | ⟨a, b⟩
    · exact initGo_at k l i d b
    · rw [initGo_length] at a b
      cases hk : i - k with
      | zero =>
        rw [hk] at b
        have : i = k := by omega
        subst this
        simpa [PEnv.at] using b
      | succ j => rw [hk] at b; simp [PEnv.at] at b
theorem lookup_zip : ∀ (ps : List Nat) (ds : List D) (i : Nat) (d : D), (ps.zip ds).lookup i = some d → ∃ j : Nat, ps[j]? = some i ∧ ds[j]? = some d
  | [], ds, i, d, h => by simp at h
  | p :: ps, [], i, d, h => by simp at h
  | p :: ps, e :: ds, i, d, h => by
    rw [List.zip_cons_cons, List.lookup_cons] at h
    cases hb : i == p with
    | true =>
      rw [hb] at h
      simp at h hb
      subst h; subst hb
      exact ⟨0, rfl, rfl⟩
    | false =>
      rw [hb] at h
      obtain ⟨j, h1, h2⟩ := lookup_zip ps ds i d h
      exact ⟨j + 1, by simpa using h1, by simpa using h2⟩

theorem bindL_no {kindOf : Str → Option NameKind} {x : Str} : ∀ (binds : List (Str × Value)) (m : Str → Option Value), x ∉ binds.map (·.1) → bindL kindOf binds m x = m x
  | [], m, _ => rfl
  | (n, v) :: r, m, h => by
    simp only [List.map_cons, List.mem_cons, not_or] at h
    unfold bindL
    rw [bindL_no r _ h.2]
    split
    · exact if_neg h.1
    · rfl
theorem bindC_no {kindOf : Str → Option NameKind} {x : Str} : ∀ (binds : List (Str × Value)) (m : Str → Option Value), x ∉ binds.map (·.1) → bindC kindOf binds m x = m x
  | [], m, _ => rfl
  | (n, v) :: r, m, h => by
    simp only [List.map_cons, List.mem_cons, not_or] at h
    unfold bindC
    rw [bindC_no r _ h.2]
    split
    · rfl
    · exact if_neg h.1
theorem bindL_at {kindOf : Str → Option NameKind} {x : Str} {v : Value} (hk : kindOf x = some .local) : ∀ (binds : List (Str × Value)) (m : Str → Option Value), (binds.map (·.1)).Nodup → (x, v) ∈ binds → bindL kindOf binds m x = some v
  | (n, u) :: r, m, hnd, h => by
    have hnd' := List.nodup_cons.mp hnd
    unfold bindL
    rcases List.mem_cons.mp h with e | h1
    · cases e
      rw [bindL_no r _ hnd'.1, if_pos hk]
      simp
    · exact bindL_at hk r _ hnd'.2 h1
theorem bindC_at {kindOf : Str → Option NameKind} {x : Str} {v : Value} (hk : kindOf x = some .cell) : ∀ (binds : List (Str × Value)) (m : Str → Option Value), (binds.map (·.1)).Nodup → (x, v) ∈ binds → bindC kindOf binds m x = some v
  | (n, u) :: r, m, hnd, h => by
    have hnd' := List.nodup_cons.mp hnd
    unfold bindC
    rcases List.mem_cons.mp h with e | h1
    · cases e
      rw [bindC_no r _ hnd'.1, if_neg (by rw [hk]; decide)]
      simp
    · exact bindC_at hk r _ hnd'.2 h1

theorem cellsFrom_has {x : Str} : ∀ (names : List (Str × NameKind)) (n : Nat) (acc : List (Str × Addr)), ((x, NameKind.cell) ∈ names ∨ ∃ a, (x, a) ∈ acc) → ∃ a, (x, a) ∈ cellsFrom n names acc
  | [], n, acc, h => h.elim (fun h => by cases h) id
  | (m, k) :: r, n, acc, h => by
    unfold cellsFrom
    split
    · refine cellsFrom_has r _ _ ?_
      rcases h with h | ⟨a, h⟩
      · rcases List.mem_cons.mp h with e | h
        · cases e; exact .inr ⟨n, List.mem_cons_self⟩
        · exact .inl h
      · exact .inr ⟨a, List.mem_cons_of_mem _ h⟩
    · rename_i hk
      refine cellsFrom_has r _ _ ?_
      rcases h with h | ⟨a, h⟩
      · rcases List.mem_cons.mp h with e | h
        · cases e; exact absurd (by rfl) hk
        · exact .inl h
      · exact .inr ⟨a, h⟩

/-- the check of a def: names nm, variables vs, parameters ps -/
noncomputable def fnChk (nm : Nat → Str) (vs ps : List Nat) (sc : Scope) : Bool :=
  sc.kind == .function && !sc.isGenerator && !sc.isCoroutine && decide (sc.names.map (·.1)).Nodup && decide ((vs.map nm).Nodup) && ps.all (fun i => vs.contains i) && decide ((ps.map nm).Nodup) &&
  vs.all (fun i => (sc.names.contains (nm i, .local) || sc.names.contains (nm i, .cell)) && !(nm i == ("__debug__" : Str)))

theorem inj_of_nodup {nm : Nat → Str} : ∀ {vs : List Nat}, (vs.map nm).Nodup → ∀ i ∈ vs, ∀ j ∈ vs, nm i = nm j → i = j
  | v :: r, h, i, hi, j, hj, e => by
    have h' := List.nodup_cons.mp h
    rcases List.mem_cons.mp hi with rfl | hi' <;> rcases List.mem_cons.mp hj with rfl | hj'
    · rfl
    · exact absurd (List.mem_map.mpr ⟨j, hj', e.symm⟩) h'.1
    · exact absurd (List.mem_map.mpr ⟨i, hi', e⟩) h'.1
    · exact inj_of_nodup h'.2 i hi' j hj' e

theorem fn_valid {c : Bx} {n : Nat} {t : Tb} {S : Nat → Spec} (G : GT c n t S) (GE : GX c t) (hq : t.q = true ∧ t.cv = Option.none) {f : Addr} {o : Obj} {fd : FuncData} {body : List PS} {vs ps : List Nat} {nv : Nat} {Sp : Spec}
    (ho : c.b.get? f = some o) (hd : o.data = .func fd) (hcd : c.b.CodeRec fd.code fd.qualname) (hbody : fd.body = .stmts (embSs t.N body)) (hclo : fd.closure = []) (hgl : fd.globals = mainGlobals) (hbu : fd.builtins = builtinsNs)
    (hchk : fnChk t.N.nm vs ps fd.scope = true) (hw : wfSs t fd.scope.names vs body = true) (hbind : ∀ us : List Value, us.length = ps.length → bindArgs fd ⟨us, []⟩ = pure ((ps.map t.N.nm).zip us))
    (hS : ∀ ds σ Φ X, Sp ds σ Φ X → ds.length = ps.length ∧ vcSs S ⟨retX X, Option.none⟩ body (initE ps ds nv) σ (retS Φ)) : Valid c (n + 1) f Sp := by
  refine ⟨⟨o, fd, ho, hd⟩, fun A hA l hF ds σ Φ X hSp P s us hb ok own hprot hwp hwb hfr hr Q E hQ hE => ?_⟩
  obtain ⟨hlen, hvc⟩ := hS ds σ Φ X hSp
  have hul : us.length = ps.length := hr.length.trans hlen
  unfold fnChk at hchk
  simp only [Bool.and_eq_true, Bool.not_eq_true', decide_eq_true_eq, List.all_eq_true] at hchk
  obtain ⟨⟨⟨⟨⟨⟨⟨hk1, hk2⟩, hk3⟩, hnd⟩, hvnd⟩, hps⟩, hpnd⟩, hall⟩ := hchk
  have hk1' : fd.scope.kind = .function := by simpa using hk1
  have kindOf : ∀ x k, (x, k) ∈ fd.scope.names → fd.scope.names.lookup x = some k := fun x k hm => lookup_nodup hnd hm
  have kinds : ∀ i ∈ vs, fd.scope.names.lookup (t.N.nm i) = some .local ∨ ((t.N.nm i, NameKind.cell) ∈ fd.scope.names ∧ fd.scope.names.lookup (t.N.nm i) = some .cell) := fun i hi => by
    have := (hall i hi).1
    simp only [Bool.or_eq_true] at this
    rcases this with h | h
    · exact .inl (kindOf _ _ (by simpa using h))
    · exact .inr ⟨by simpa using h, kindOf _ _ (by simpa using h)⟩
  have bnames : ((ps.map t.N.nm).zip us).map (·.1) = ps.map t.N.nm := by
    rw [List.map_fst_zip]; simp [hul]
  refine (codeAny_call_cells (by unfold recursionLimit; have := hA.2.1; omega) (hb f o ho) hd (c.hl.keeps hb) (hcd.keeps hb) hbody (hbind us hul) hclo (fun x hx => ?_) (fun s₁ X₁ => ?_) hk3 hk2 hk1')
  · have hx1 : x.1 ∈ ps.map t.N.nm := by rw [← bnames]; exact List.mem_map_of_mem (f := fun y : Str × Value => y.1) hx
    obtain ⟨i, hi, e⟩ := List.mem_map.mp hx1
    have hiv : i ∈ vs := by simpa using hps i hi
    rw [← e]
    rcases kinds i hiv with h | ⟨h1, h2⟩
    · exact .inl h
    · refine .inr ⟨h2, ?_⟩
      obtain ⟨a, ha⟩ := cellsFrom_has fd.scope.names (s.heap.objs.size + 1) [] (.inl h1)
      obtain ⟨b, hb'⟩ := lookup_of_mem ha
      rw [hb']; rfl
  · have hkeep : ∀ b o, s.heap.get? b = some o → s₁.heap.get? b = some o := X₁.toInCall.keep
    have kp₀ : Keeps s s₁ := by obtain ⟨h', tk, e, k⟩ := X₁.done; exact ⟨h', tk, e, k⟩
    have frN : ∀ a, FrA (callEnvC fd s.heap.objs.size f) a → s.heap.get? a = Option.none := fun a ha => by
      have hge : s.heap.objs.size ≤ a := by
        rcases ha with rfl | ⟨y, hy⟩
        · exact X₁.toInCall.fresh
        · exact Nat.le_of_lt (X₁.above y a (mem_of_lookup hy))
      cases e : s.heap.get? a with
      | none => rfl
      | some o' => exact absurd (Heap.lt_size e) (Nat.not_lt.mpr hge)
    have eo : EnvOk t.N.nm vs (callEnvC fd s.heap.objs.size f) :=
      ⟨hk1', hgl, hbu, inj_of_nodup hvnd, fun i hi => by
        rcases kinds i hi with h | ⟨h1, h2⟩
        · exact .inl h
        · refine .inr ⟨h2, ?_⟩
          obtain ⟨a, ha⟩ := cellsFrom_has fd.scope.names (s.heap.objs.size + 1) [] (.inl h1)
          exact lookup_of_mem ha, fun i hi => (hall i hi).2, X₁.apart⟩
    have hn : Nm (callEnvC fd s.heap.objs.size f) fd.scope.names := ⟨fun x hx => kindOf x _ hx, fun x hx => kindOf x _ hx, fun x hx => kindOf x _ hx⟩
    obtain ⟨L, hL⟩ : ∃ L, L = (callEnvC fd s.heap.objs.size f).locals := ⟨_, rfl⟩
    have hfL : (callEnvC fd s.heap.objs.size f).frame = some L := by rw [hL]; rfl
    have hLn : s.heap.get? L = Option.none := frN L (.inl hL)
    have flN : ∀ a, (callEnvC fd s.heap.objs.size f).frame = some a → s.heap.get? a = Option.none := fun a ha => by rw [hfL] at ha; cases ha; exact hLn
    obtain ⟨P', hP'⟩ : ∃ P' : Addr → Prop, ∀ a, P' a ↔ P a ∨ a = L := ⟨fun a => P a ∨ a = L, fun _ => Iff.rfl⟩
    have stayP : Stay (nd σ P) (nd σ P') s.heap s₁.heap := fun a o hN ho _ => ⟨hkeep a o ho, hN.1, fun q => ((hP' a).mp q).elim hN.2 fun e => by rw [e, hLn] at ho; cases ho⟩
    have okP : StoreOk σ P' s₁.heap := ⟨fun a mo e => (ok.rep a mo e).stay stayP fun b o _ ho => hkeep b o ho, ok.apart, fun a ha q => ((hP' a).mp q).elim (ok.free a ha) fun e => by
      obtain ⟨o', ho'⟩ := ok.alive ha
      rw [e, hLn] at ho'; cases ho'⟩
    have frs₁ : Frs s₁.heap (callEnvC fd s.heap.objs.size f :: l) := fun e he => by
      rcases List.mem_cons.mp he with rfl | he
      · obtain ⟨o', es, ep, ho', hd', _⟩ := X₁.toInCall.ns
        exact ⟨by rw [eo.kind]; decide, L, o', hfL, by rw [hL]; exact ho', fun vs q => by rw [hd'] at q; cases q⟩
      · exact (hfr.keeps hkeep) e he
    have wpP : ∀ a, WL (callEnvC fd s.heap.objs.size f :: l) a → P' a := fun a ha => (hP' a).mpr ((WL.cons.mp ha).symm.imp (hwp a) fun q => by rw [hfL] at q; cases q; rfl)
    have hexc : ∀ e C σ' s', retX X C σ' → Step (WL (callEnvC fd s.heap.objs.size f :: l)) (FrA (callEnvC fd s.heap.objs.size f)) σ σ' s₁ s' → StoreOk σ' P' s'.heap → Frs s'.heap (callEnvC fd s.heap.objs.size f :: l) → Fly (callEnvC fd s.heap.objs.size f :: l) s₁.heap e C s'.heap →
        wpAny c.M (A.deeper (callEnvC fd s.heap.objs.size f)) (leaving (callEnvC fd s.heap.objs.size f) (.ref e)) (fun _ s'' => E (.ref e) s'') (fun e' s'' => E e' s'') s' := by
      intro e C σ' s' hX st okk fr fl
      obtain ⟨σ'', hsub, hXC⟩ := hX
      refine leave_any (h₀ := s₁.heap) (C := C) (Around.frames_deeper hF) hfL fr st.alive fl fun h' fl' kp => ?_
      have st' := Step.leave kp₀ (kp_step st kp) frN flN
      exact hE e C σ'' _ hXC ⟨st'.same, st'.keep, st'.slot, st'.alive, fun a ha => st'.new a (hsub.dom ha)⟩ (((kp_store okk kp wpP).weak fun a ha => (hP' a).mpr (.inl ha)).sub hsub) (fun x hx => (kp_frs fr kp) x (List.mem_cons_of_mem _ hx)) (fl'.elder fun a o ha => ⟨o, hkeep a o ha⟩)
    obtain ⟨c', hc'⟩ : ∃ c' : Cx, c' = ⟨c, callEnvC fd s.heap.objs.size f :: l, fun e s' => wpAny c.M (A.deeper (callEnvC fd s.heap.objs.size f)) (leaving (callEnvC fd s.heap.objs.size f) e) (fun _ s'' => E e s'') (fun e' s'' => E e' s'') s', retX X, Option.none, FrA (callEnvC fd s.heap.objs.size f), σ, s₁, P', hexc⟩ := ⟨_, rfl⟩
    have g : Good c' t.N.nm vs (callEnvC fd s.heap.objs.size f) (initE ps ds nv) σ P' s₁ := by
      subst hc'
      refine ⟨fun a o' e => hkeep a o' (hb a o' e), ⟨_, X₁.toInCall.ns⟩, fun x ca hx => ⟨_, X₁.cell x ca hx⟩, fun i d e => ?_, okP, fun a ha => ⟨own a ha, fun hf => ?_⟩, fun a hf => ?_, fun a ha => ?_, wpP, fun a ha => ?_, frs₁, fun _ h => h, Step.refl _ _ _ _, fun i C q => by cases q⟩
      · obtain ⟨j, hj1, hj2⟩ := lookup_zip ps ds i d (initGo_at _ _ _ _ e)
        have hip : i ∈ ps := List.mem_of_getElem? hj1
        have hiv : i ∈ vs := by simpa using hps i hip
        obtain ⟨v, hv1, hv2⟩ := hr.get hj2
        have hmem : (t.N.nm i, v) ∈ (ps.map t.N.nm).zip us := by
          refine List.mem_of_getElem? (i := j) ?_
          rw [List.getElem?_zip_eq_some]
          exact ⟨by rw [List.getElem?_map, hj1]; rfl, hv1⟩
        refine ⟨hiv, v, ?_, Rep.stay stayP _ _ hv2⟩
        rcases kinds i hiv with h | ⟨h1, h2⟩
        · exact .inl ⟨h, _, X₁.toInCall.ns, bindL_at h _ _ (by rw [bnames]; exact hpnd) hmem⟩
        · right
          obtain ⟨a, ha⟩ := cellsFrom_has fd.scope.names (s.heap.objs.size + 1) [] (.inl h1)
          obtain ⟨b, hb'⟩ := lookup_of_mem ha
          refine ⟨h2, b, hb', ?_⟩
          have := X₁.cell _ _ hb'
          rwa [bindC_at h2 _ _ (by rw [bnames]; exact hpnd) hmem] at this
      · obtain ⟨o', ho'⟩ := ok.alive ha
        rw [frN a hf] at ho'; cases ho'
      · cases e : c.b.get? a with
        | none => rfl
        | some o' => have := hb a o' e; rw [frN a hf] at this; cases this
      · rcases (hP' a).mp ha with ha | rfl
        · obtain ⟨o', ho'⟩ := hprot a ha
          exact ⟨o', hkeep a o' ho'⟩
        · obtain ⟨o', es, ep, ho', _⟩ := X₁.toInCall.ns
          exact ⟨o', by rw [hL]; exact ho'⟩
      · rcases WL.cons.mp ha with q | q
        · cases e : c.b.get? a with
          | none => rfl
          | some o' => have := hb a o' e; rw [flN a q] at this; cases this
        · exact hwb a q
    have hA' := Room.deeper hA (callEnvC fd s.heap.objs.size f)
    have back : ∀ {σ' : Store} {h : Heap} {d : D} {v : Value}, Rep (nd σ' P') h d v → Rep (nd σ' P) h d v := fun x => Rep.stay (fun a o hN ho _ => ⟨ho, hN.1, fun q => hN.2 ((hP' a).mpr (.inl q))⟩) _ _ x
    have z : AtS n t S ⟨retX X, Option.none⟩ c' (A.deeper (callEnvC fd s.heap.objs.size f)) (callEnvC fd s.heap.objs.size f) := by
      subst hc'
      exact ⟨⟨G, GE, fun _ => hA', fun _ => hq.2, units_ok hA', Around.frames_deeper hF, rfl, by rw [hq.2]; rfl⟩, fun _ a ha => ha, ⟨l, L, rfl, hfL⟩, wpP⟩
    have hrun := soundSs body t _ _ c' fd.scope.names vs _ z eo hn hw _ _ _ hvc P' s₁ g
    have cW : c'.W = WL (callEnvC fd s.heap.objs.size f :: l) := by rw [hc']
    have cE : c'.E = fun e s' => wpAny c.M (A.deeper (callEnvC fd s.heap.objs.size f)) (leaving (callEnvC fd s.heap.objs.size f) e) (fun _ s'' => E e s'') (fun e' s'' => E e' s'') s' := by rw [hc']
    have cM : c'.M = c.M := by rw [hc']
    rw [cE, cM, cW] at hrun
    refine hrun _ fun fl s' r hres st ro => ?_
    have stl := Step.leave kp₀ st frN flN
    cases r with
    | next ρ' σ' =>
      obtain ⟨rfl, g'⟩ := ro
      obtain ⟨σ'', hsub, hΦ⟩ := hres
      exact hQ .none .none σ'' s' hΦ ⟨stl.same, stl.keep, stl.slot, stl.alive, fun a ha => stl.new a (hsub.dom ha)⟩ ((g'.st.weak fun a ha => (hP' a).mpr (.inl ha)).sub hsub) rep_none
    | ret d σ' =>
      obtain ⟨u, rfl, h1, h2⟩ := ro
      obtain ⟨d', σ'', hfz, hΦ⟩ := hres
      obtain ⟨k1, k2⟩ := frz_ok hfz (h1.weak fun a ha => (hP' a).mpr (.inl ha)) (back h2)
      exact hQ u d' σ'' s' hΦ ⟨stl.same, stl.keep, stl.slot, stl.alive, fun a ha => stl.new a (hfz.1.dom ha)⟩ k1 k2
    | brk ρ' σ' => exact hres.elim
    | cont ρ' σ' => exact hres.elim
end Mine
end
section
open PySem PyProof.Rows
set_option Elab.async false
namespace Mine

/-- a list of whole numbers as data -/
noncomputable abbrev dI (xs : List Int) : D := .list (xs.map D.int)

theorem forS_inv {step : D → PEnv → Store → (Res → Prop) → Prop} {keep : Store → Prop} {Φ : Res → Prop} {ds : List D} (I : Nat → PEnv → Store → Prop) (hkeep : ∀ k ρ σ, I k ρ σ → keep σ)
    (hstep : ∀ k d ρ σ (K : PEnv → Store → Prop), ds[k]? = some d → I k ρ σ → (∀ ρ' σ', I (k + 1) ρ' σ' → K ρ' σ') → step d ρ σ fun r => match r with
      | .next ρ' σ' => K ρ' σ'
      | .cont ρ' σ' => K ρ' σ'
      | .brk ρ' σ' => Φ (.next ρ' σ')
      | .ret d' σ' => Φ (.ret d' σ'))
    (hend : ∀ ρ σ, I ds.length ρ σ → Φ (.next ρ σ)) {ρ : PEnv} {σ : Store} (h0 : I 0 ρ σ) : forS step keep ds ρ σ Φ := by
  suffices H : ∀ n k ρ σ, n = ds.length - k → k ≤ ds.length → I k ρ σ → forS step keep (ds.drop k) ρ σ Φ by
    have := H ds.length 0 ρ σ rfl (Nat.zero_le _) h0
    rwa [List.drop_zero] at this
  intro n
  induction n with
  | zero =>
    intro k ρ σ hn hk hI
    have : k = ds.length := by omega
    subst this
    rw [List.drop_length]
    exact hend ρ σ hI
  | succ n ih =>
    intro k ρ σ hn hk hI
    have hlt : k < ds.length := by omega
    rw [List.drop_eq_getElem_cons hlt]
    simp only [forS]
    exact hstep k ds[k] ρ σ (fun ρ' σ' => keep σ' ∧ forS step keep (ds.drop (k + 1)) ρ' σ' Φ) (List.getElem?_eq_getElem hlt) hI fun ρ' σ' h' => ⟨hkeep _ _ _ h', ih (k + 1) ρ' σ' (by omega) hlt h'⟩

theorem compS_map {step : D → Store → (Option D → Store → Prop) → Prop} {keep : Store → Prop} {σ : Store} (f : D → Option D) (hk : keep σ) : ∀ (ds : List D) (acc : List D) {Ψ : List D → Store → Prop}, (∀ d ∈ ds, ∀ K : Option D → Store → Prop, K (f d) σ → step d σ K) →
    Ψ (acc ++ ds.filterMap f) σ → compS step keep ds σ acc Ψ
  | [], acc, Ψ, _, h => by simpa [compS] using h
  | d :: ds, acc, Ψ, hs, h => by
    simp only [compS]
    refine hs d List.mem_cons_self _ ⟨hk, compS_map f hk ds _ (fun e he => hs e (List.mem_cons_of_mem _ he)) ?_⟩
    cases e : f d with
    | none => simpa [List.filterMap_cons, e] using h
    | some y => simpa [List.filterMap_cons, e] using h

theorem filterMap_map_some {α : Type} (g : α → D) (f : D → Option D) (h : α → D) : ∀ xs : List α, (∀ x ∈ xs, f (g x) = some (h x)) → (xs.map g).filterMap f = xs.map h
  | [], _ => rfl
  | x :: r, hx => by
    rw [List.map_cons, List.filterMap_cons, hx x List.mem_cons_self, List.map_cons, filterMap_map_some g f h r fun y hy => hx y (List.mem_cons_of_mem _ hy)]

theorem iteT {p : Prop} [Decidable p] {a : Prop} (h : p) (x : a) : if p then a else False := by rw [if_pos h]; exact x
theorem and_dec {b : Bool} {X Y : Prop} (h1 : b = true → X) (h2 : b = false → Y) : (b = true → X) ∧ (b = false → Y) := ⟨h1, h2⟩
theorem and_decide {p : Prop} [Decidable p] {X Y : Prop} (h1 : p → X) (h2 : ¬ p → Y) : (decide p = true → X) ∧ (decide p = false → Y) := ⟨fun h => h1 (of_decide_eq_true h), fun h => h2 (of_decide_eq_false h)⟩
theorem and_not_decide {p : Prop} [Decidable p] {X Y : Prop} (h1 : ¬ p → X) (h2 : p → Y) : ((!decide p) = true → X) ∧ ((!decide p) = false → Y) := ⟨fun h => h1 (by simpa using h), fun h => h2 (by simpa using h)⟩
theorem and_true' {X Y : Prop} (h : X) : (true = true → X) ∧ (true = false → Y) := ⟨fun _ => h, fun e => Bool.noConfusion e⟩
theorem and_false' {X Y : Prop} (h : Y) : (false = true → X) ∧ (false = false → Y) := ⟨fun e => Bool.noConfusion e, fun _ => h⟩
theorem get_map_int {xs : List Int} {k : Nat} (h : k < xs.length) : (xs.map D.int)[k]? = some (.int xs[k]) := by rw [List.getElem?_map, List.getElem?_eq_getElem h]; rfl
theorem get_map {α : Type} (f : α → D) {xs : List α} {k : Nat} (h : k < xs.length) : (xs.map f)[k]? = some (f xs[k]) := by rw [List.getElem?_map, List.getElem?_eq_getElem h]; rfl
theorem small_ok {n : Nat} (h : n ≤ 100000) : n ≤ small := by unfold small; omega
end Mine
end
section
open PySem PyProof.Rows
set_option Elab.async false
namespace Mine

/-- plain data without truth values, nested at most so deep -/
noncomputable def pl : Nat → D → Prop
  | _, .none => True
  | _, .int _ => True
  | n + 1, .list xs => ∀ x ∈ xs, pl n x
  | n + 1, .tuple xs => ∀ x ∈ xs, pl n x
  | _, _ => False

theorem pys_ok {n : Nat} (ih : ∀ d, pl n d → ∃ x, D.py d = some x ∧ x.canLay0 = true ∧ x.depth ≤ n) : ∀ xs : List D, (∀ x ∈ xs, pl n x) → ∃ ys, D.pys xs = some ys ∧ PyData.canLayAll0 ys = true ∧ PyData.depthAll ys ≤ n
  | [], _ => ⟨[], rfl, rfl, by simp [PyData.depthAll]⟩
  | d :: ds, h => by
    obtain ⟨x, e, c, p⟩ := ih d (h d List.mem_cons_self)
    obtain ⟨ys, e', c', p'⟩ := pys_ok ih ds fun y hy => h y (List.mem_cons_of_mem _ hy)
    refine ⟨x :: ys, by rw [D.pys, e, e']; rfl, by rw [PyData.canLayAll0, c, c']; rfl, ?_⟩
    rw [PyData.depthAll]; omega
theorem pl_py : ∀ (n : Nat) (d : D), pl n d → ∃ x, D.py d = some x ∧ x.canLay0 = true ∧ x.depth ≤ n
  | _, .none, _ => ⟨.none, rfl, rfl, by simp [PyData.depth]⟩
  | _, .int i, _ => ⟨.int i, rfl, rfl, by simp [PyData.depth]⟩
  | n + 1, .list xs, h => by
    obtain ⟨ys, e, c, p⟩ := pys_ok (pl_py n) xs h
    refine ⟨.list ys, by rw [D.py, e]; rfl, by rw [PyData.canLay0]; exact c, ?_⟩
    rw [PyData.depth]; omega
  | n + 1, .tuple xs, h => by
    obtain ⟨ys, e, c, p⟩ := pys_ok (pl_py n) xs h
    refine ⟨.tuple ys, by rw [D.py, e]; rfl, by rw [PyData.canLay0]; exact c, ?_⟩
    rw [PyData.depth]; omega
  | 0, .list _, h => h.elim
  | 0, .tuple _, h => h.elim
  | 0, .bool _, h => h.elim
  | n + 1, .bool _, h => h.elim
  | 0, .str _, h => h.elim
  | n + 1, .str _, h => h.elim
  | 0, .obj _, h => h.elim
  | n + 1, .obj _, h => h.elim

theorem pys_eqv {n : Nat} (ih : ∀ m d e x y, pl n d → pl m e → D.py d = some x → D.py e = some y → (PyData.eqv x y = true ↔ d = e)) {m : Nat} : ∀ (ds es : List D) (xs ys : List PyData), (∀ d ∈ ds, pl n d) → (∀ e ∈ es, pl m e) → D.pys ds = some xs → D.pys es = some ys → (PyData.eqvAll xs ys = true ↔ ds = es)
  | [], [], xs, ys, _, _, e, e' => by cases e; cases e'; simp [PyData.eqvAll]
  | [], d :: es, xs, ys, _, h, e, e' => by
    cases e
    obtain ⟨x, q, _⟩ := pl_py m d (h d List.mem_cons_self)
    obtain ⟨zs, q', _⟩ := pys_ok (pl_py m) es fun y hy => h y (List.mem_cons_of_mem _ hy)
    rw [D.pys, q, q'] at e'
    cases e'
    simp [PyData.eqvAll]
  | d :: ds, [], xs, ys, h, _, e, e' => by
    cases e'
    obtain ⟨x, q, _⟩ := pl_py n d (h d List.mem_cons_self)
    obtain ⟨zs, q', _⟩ := pys_ok (pl_py n) ds fun y hy => h y (List.mem_cons_of_mem _ hy)
    rw [D.pys, q, q'] at e
    cases e
    simp [PyData.eqvAll]
  | d :: ds, f :: es, xs, ys, h, h', e, e' => by
    obtain ⟨x, q, _⟩ := pl_py n d (h d List.mem_cons_self)
    obtain ⟨zs, q', _⟩ := pys_ok (pl_py n) ds fun y hy => h y (List.mem_cons_of_mem _ hy)
    obtain ⟨x2, q2, _⟩ := pl_py m f (h' f List.mem_cons_self)
    obtain ⟨zs2, q2', _⟩ := pys_ok (pl_py m) es fun y hy => h' y (List.mem_cons_of_mem _ hy)
    have i1 := ih m d f x x2 (h d List.mem_cons_self) (h' f List.mem_cons_self) q q2
    have i2 := pys_eqv ih ds es zs zs2 (fun y hy => h y (List.mem_cons_of_mem _ hy)) (fun y hy => h' y (List.mem_cons_of_mem _ hy)) q' q2'
    rw [D.pys, q, q'] at e
    rw [D.pys, q2, q2'] at e'
    cases e; cases e'
    rw [PyData.eqvAll, Bool.and_eq_true, i1, i2, List.cons.injEq]

theorem pl_seq {m : Nat} {xs : List D} (h : pl m (.list xs) ∨ pl m (.tuple xs)) : ∃ k, m = k + 1 ∧ ∀ x ∈ xs, pl k x := by
  cases m with
  | zero => exact h.elim (fun q => q.elim) (fun q => q.elim)
  | succ k => exact ⟨k, rfl, h.elim id id⟩
theorem py_list {xs : List D} {y : PyData} (h : D.py (.list xs) = some y) : ∃ ys, D.pys xs = some ys ∧ y = .list ys := by
  rw [D.py] at h
  cases e : D.pys xs with
  | none => rw [e] at h; cases h
  | some ys => rw [e] at h; cases h; exact ⟨ys, rfl, rfl⟩
theorem py_tuple {xs : List D} {y : PyData} (h : D.py (.tuple xs) = some y) : ∃ ys, D.pys xs = some ys ∧ y = .tuple ys := by
  rw [D.py] at h
  cases e : D.pys xs with
  | none => rw [e] at h; cases h
  | some ys => rw [e] at h; cases h; exact ⟨ys, rfl, rfl⟩
theorem pl_not_bool {n : Nat} {b : Bool} : ¬ pl n (.bool b) := by cases n <;> exact id
theorem pl_not_str {n : Nat} {b : Str} : ¬ pl n (.str b) := by cases n <;> exact id
theorem pl_not_obj {n : Nat} {b : Addr} : ¬ pl n (.obj b) := by cases n <;> exact id

theorem pl_eqv : ∀ (n m : Nat) (d e : D) (x y : PyData), pl n d → pl m e → D.py d = some x → D.py e = some y → (PyData.eqv x y = true ↔ d = e) := by
  intro n
  induction n with
  | zero =>
    intro m d e x y hd he px py
    cases d with
    | none =>
      cases px
      cases e with
      | none => cases py; simp [PyData.eqv]
      | int j => cases py; simp [PyData.eqv]
      | list xs => obtain ⟨ys, _, rfl⟩ := py_list py; simp [PyData.eqv]
      | tuple xs => obtain ⟨ys, _, rfl⟩ := py_tuple py; simp [PyData.eqv]
      | bool b => exact (pl_not_bool he).elim
      | str b => exact (pl_not_str he).elim
      | obj b => exact (pl_not_obj he).elim
    | int i =>
      cases px
      cases e with
      | none => cases py; simp [PyData.eqv]
      | int j => cases py; simp [PyData.eqv]
      | list xs => obtain ⟨ys, _, rfl⟩ := py_list py; simp [PyData.eqv]
      | tuple xs => obtain ⟨ys, _, rfl⟩ := py_tuple py; simp [PyData.eqv]
      | bool b => exact (pl_not_bool he).elim
      | str b => exact (pl_not_str he).elim
      | obj b => exact (pl_not_obj he).elim
    | list xs => exact hd.elim
    | tuple xs => exact hd.elim
    | bool b => exact hd.elim
    | str b => exact hd.elim
    | obj b => exact hd.elim
  | succ n ih =>
    intro m d e x y hd he px py
    cases d with
    | none =>
      cases px
      cases e with
      | none => cases py; simp [PyData.eqv]
      | int j => cases py; simp [PyData.eqv]
      | list xs => obtain ⟨ys, _, rfl⟩ := py_list py; simp [PyData.eqv]
      | tuple xs => obtain ⟨ys, _, rfl⟩ := py_tuple py; simp [PyData.eqv]
      | bool b => exact (pl_not_bool he).elim
      | str b => exact (pl_not_str he).elim
      | obj b => exact (pl_not_obj he).elim
    | int i =>
      cases px
      cases e with
      | none => cases py; simp [PyData.eqv]
      | int j => cases py; simp [PyData.eqv]
      | list xs => obtain ⟨ys, _, rfl⟩ := py_list py; simp [PyData.eqv]
      | tuple xs => obtain ⟨ys, _, rfl⟩ := py_tuple py; simp [PyData.eqv]
      | bool b => exact (pl_not_bool he).elim
      | str b => exact (pl_not_str he).elim
      | obj b => exact (pl_not_obj he).elim
    | list xs =>
      obtain ⟨xs', px', rfl⟩ := py_list px
      cases e with
      | none => cases py; simp [PyData.eqv]
      | int j => cases py; simp [PyData.eqv]
      | list ys =>
        obtain ⟨ys', py', rfl⟩ := py_list py
        obtain ⟨k, _, hk⟩ := pl_seq (.inl he)
        rw [PyData.eqv, pys_eqv ih xs ys xs' ys' hd hk px' py', D.list.injEq]
      | tuple ys => obtain ⟨ys, _, rfl⟩ := py_tuple py; simp [PyData.eqv]
      | bool b => exact (pl_not_bool he).elim
      | str b => exact (pl_not_str he).elim
      | obj b => exact (pl_not_obj he).elim
    | tuple xs =>
      obtain ⟨xs', px', rfl⟩ := py_tuple px
      cases e with
      | none => cases py; simp [PyData.eqv]
      | int j => cases py; simp [PyData.eqv]
      | tuple ys =>
        obtain ⟨ys', py', rfl⟩ := py_tuple py
        obtain ⟨k, _, hk⟩ := pl_seq (.inr he)
        rw [PyData.eqv, pys_eqv ih xs ys xs' ys' hd hk px' py', D.tuple.injEq]
      | list ys => obtain ⟨ys, _, rfl⟩ := py_list py; simp [PyData.eqv]
      | bool b => exact (pl_not_bool he).elim
      | str b => exact (pl_not_str he).elim
      | obj b => exact (pl_not_obj he).elim
    | bool b => exact hd.elim
    | str b => exact hd.elim
    | obj b => exact hd.elim

theorem pl_shaped {d : D} (h : pl 20 d) : ∃ x, D.py d = some x ∧ SeqAt.shaped x = true := by
  obtain ⟨x, e, c, p⟩ := pl_py 20 d h
  refine ⟨x, e, ?_⟩
  show (x.canLay0 && decide (x.depth ≤ 64)) = true
  rw [c, decide_eq_true (by omega)]; rfl
theorem pl_eqP {d : D} {σ : Store} (h : pl 20 d) : eqP σ d = D.py d := by
  cases d with
  | obj a => exact h.elim
  | _ => rfl
/-- equality of plain data is equality -/
theorem eqS {a b : D} {σ σ' : Store} {Φ : D → Store → Prop} (ha : pl 20 a) (hb : pl 20 b) (h : ∀ t : Bool, (t = true ↔ a = b) → Φ (.bool t) σ') :
    ∃ x y, eqP σ a = some x ∧ eqP σ b = some y ∧ SeqAt.shaped x = true ∧ SeqAt.shaped y = true ∧ Φ (.bool (PyData.eqv x y)) σ' := by
  obtain ⟨x, e, c⟩ := pl_shaped ha
  obtain ⟨y, e', c'⟩ := pl_shaped hb
  exact ⟨x, y, (pl_eqP ha).trans e, (pl_eqP hb).trans e', c, c', h _ (pl_eqv 20 20 a b x y ha hb e e')⟩
theorem neS {a b : D} {σ σ' : Store} {Φ : D → Store → Prop} (ha : pl 20 a) (hb : pl 20 b) (h : ∀ t : Bool, (t = true ↔ a = b) → Φ (.bool (!t)) σ') :
    ∃ x y, eqP σ a = some x ∧ eqP σ b = some y ∧ SeqAt.shaped x = true ∧ SeqAt.shaped y = true ∧ Φ (.bool (!PyData.eqv x y)) σ' := by
  obtain ⟨x, e, c⟩ := pl_shaped ha
  obtain ⟨y, e', c'⟩ := pl_shaped hb
  exact ⟨x, y, (pl_eqP ha).trans e, (pl_eqP hb).trans e', c, c', h _ (pl_eqv 20 20 a b x y ha hb e e')⟩
theorem eqS_same {a : D} {σ σ' : Store} {Φ : D → Store → Prop} (ha : pl 20 a) (h : Φ (.bool true) σ') :
    ∃ x y, eqP σ a = some x ∧ eqP σ a = some y ∧ SeqAt.shaped x = true ∧ SeqAt.shaped y = true ∧ Φ (.bool (PyData.eqv x y)) σ' :=
  eqS ha ha fun t ht => by rw [ht.mpr rfl]; exact h
theorem neS_same {a : D} {σ σ' : Store} {Φ : D → Store → Prop} (ha : pl 20 a) (h : Φ (.bool false) σ') :
    ∃ x y, eqP σ a = some x ∧ eqP σ a = some y ∧ SeqAt.shaped x = true ∧ SeqAt.shaped y = true ∧ Φ (.bool (!PyData.eqv x y)) σ' :=
  neS ha ha fun t ht => by rw [ht.mpr rfl]; exact h
theorem pl2 {a b : D} (σ : Store) (ha : pl 20 a) (hb : pl 20 b) : ∃ x y t, eqP σ a = some x ∧ eqP σ b = some y ∧ SeqAt.shaped x = true ∧ SeqAt.shaped y = true ∧ PyData.eqv x y = t ∧ (t = true ↔ a = b) := by
  obtain ⟨x, e, c⟩ := pl_shaped ha
  obtain ⟨y, e', c'⟩ := pl_shaped hb
  exact ⟨x, y, _, (pl_eqP ha).trans e, (pl_eqP hb).trans e', c, c', rfl, pl_eqv 20 20 a b x y ha hb e e'⟩
theorem pl1 {a : D} (σ : Store) (ha : pl 20 a) : ∃ x, eqP σ a = some x ∧ SeqAt.shaped x = true ∧ PyData.eqv x x = true := by
  obtain ⟨x, e, c⟩ := pl_shaped ha
  exact ⟨x, (pl_eqP ha).trans e, c, (pl_eqv 20 20 a a x x ha ha e e).mpr rfl⟩
theorem pl_ints {n : Nat} (xs : List Int) : pl (n + 1) (dI xs) := by
  intro x hx
  obtain ⟨i, _, rfl⟩ := List.mem_map.mp hx
  cases n <;> exact trivial
theorem pl_list {n : Nat} {α : Type} (f : α → D) (xs : List α) (h : ∀ x ∈ xs, pl n (f x)) : pl (n + 1) (.list (xs.map f)) := by
  intro x hx
  obtain ⟨i, hi, rfl⟩ := List.mem_map.mp hx
  exact h i hi
theorem pl_rows {n : Nat} (xs : List (List Int)) : pl (n + 2) (.list (xs.map dI)) := pl_list dI xs fun _ _ => pl_ints _

/-- what a falling test leaves is a beginning -/
theorem filter_prefix {α : Type} (p : α → Bool) : ∀ (l : List α), l.Pairwise (fun a b => p b = true → p a = true) → ∀ (i : Nat) (hi : i < l.length), p l[i] = decide (i < (l.filter p).length)
  | [], _, i, hi => by simp at hi
  | a :: r, h, i, hi => by
    rw [List.pairwise_cons] at h
    cases e : p a with
    | true =>
      rw [List.filter_cons_of_pos e, List.length_cons]
      cases i with
      | zero => simpa using e
      | succ i =>
        simp only [List.getElem_cons_succ]
        rw [filter_prefix p r h.2 i (by simpa using hi)]
        simp
    | false =>
      have hr : ∀ b ∈ r, p b = false := fun b hb => by
        cases q : p b with
        | false => rfl
        | true => rw [h.1 b hb q] at e; cases e
      have : (a :: r).filter p = [] := List.filter_eq_nil_iff.mpr fun b hb => by
        rcases List.mem_cons.mp hb with rfl | hb
        · simp [e]
        · simp [hr b hb]
      rw [this]
      cases i with
      | zero => simpa using e
      | succ i => simp only [List.getElem_cons_succ]; rw [hr _ (List.getElem_mem _)]; simp
end Mine
end
section
open PySem PySem.W PyProof.Rows
set_option Elab.async false
namespace Mine
theorem globF {c : Bx} {x : Str} {v : Value} (h : c.mg x = some v) : c.glob x = some v := by rw [Bx.glob, h]; rfl
theorem globB {c : Bx} {x : Str} {v : Value} (h : c.mg x = none) (B : ∀ x : Str, x ≠ "__name__" → c.mb x = bootBuiltins x) (hx : x ≠ "__name__") (e : bootBuiltins x = some v) : c.glob x = some v := by
  rw [Bx.glob, h, B x hx, e]; rfl
theorem repL_ints {N : Addr → Prop} {h : Heap} : ∀ {vs : List Value} {ns : List Int}, IntsAre vs ns → RepL N h (ns.map D.int) vs
  | _, _, .nil => .nil
  | _, _, .cons n t r => .cons (by simp only [Rep]; exact ⟨t, rfl⟩) (repL_ints r)
noncomputable def noS : Store := fun _ => none
theorem noS_dom {a : Addr} : ¬ dom noS a := by
  rintro (h | ⟨x, C, fs, h⟩)
  · exact h rfl
  · cases h
theorem storeOk_no {P : Addr → Prop} {h : Heap} : StoreOk noS P h := ⟨fun a mo e => (by cases e), fun x C dx fs e => (by cases e), fun a ha => (noS_dom ha).elim⟩

/-- a law that is valid keeps its row's claim -/
theorem law_good {c : Bx} {n : Nat} {f : Addr} {Sp : Spec} (V : Valid c n f Sp) {s₁ : Shared} (hb : c.b = s₁.heap) (hn : Room n callerA) {a : Addr} {vs : List Value} {ns : List Int} (hL : s₁.heap.IsList a vs.toArray) (hI : IntsAre vs ns) (hg : s₁.gens = #[])
    (hS : Sp [dI ns] noS (fun d _ => d = .bool true) fun _ _ => False) {cl : ClaimW} {ca : Str → Option Addr} {mean : ExcName → Option Value} {args : List WData} (hr : ∀ x, cl.raises args x = false) (hp : cl.post args (.bool true) args = true) :
    codeAny c.M callerA (.call (.ref f) ⟨[.ref a], []⟩) (GoodWG cl ca mean args s₁) s₁ := by
  refine codeAny_mono (R := fun r s' => GoodW cl ca mean args s₁ r s') ?_ (fun _ _ g => GoodW.toG g)
  have := V.call callerA hn [] rfl [dI ns] noS _ _ hS (fun _ => False) s₁ [.ref a] (fun a o e => by rw [hb] at e; exact e) storeOk_no (fun a ha => (noS_dom ha).elim) (fun a ha => ha.elim) (fun a ⟨_, h, _⟩ => by cases h) (fun a ⟨_, h, _⟩ => by cases h) (fun e h => by cases h)
    (.one (by simp only [Rep]; exact ⟨a, vs.toArray, rfl, ⟨noS_dom, id⟩, hL, by simpa using repL_ints hI⟩))
    (fun v s' => GoodW cl ca mean args s₁ (.ok (.ret v)) s') (fun e s' => GoodW cl ca mean args s₁ (.error e) s') (fun v d σ' s' hd st ok hr' => ?_) (fun _ _ _ _ h => h.elim)
  · refine codeAny_mono this fun r s' h => ?_
    match r, h with
    | .ok (.ret v), h => exact h
    | .error e, h => exact h
  · subst hd
    simp only [Rep] at hr'
    subst hr'
    obtain ⟨h', tk, rfl⟩ := st.same
    exact ⟨.inl ⟨.bool true, .bool true, [], rfl, hr, .bool true, hp, fun _ => ⟨List.nodup_nil, fun a ha => by cases ha⟩⟩, fun b o e => st.keep b o e noS_dom id (fun ⟨_, h, _⟩ => by cases h), rfl, hg⟩
end Mine
end
section
open PySem PyProof.Rows
set_option Elab.async false
namespace Mine
theorem compS_mapG {α : Type} {step : D → Store → (Option D → Store → Prop) → Prop} {keep : Store → Prop} {σ : Store} (g : α → D) (f : α → Option D) (hk : keep σ) : ∀ (l : List α) (acc : List D) {Ψ : List D → Store → Prop}, (∀ x ∈ l, ∀ K : Option D → Store → Prop, K (f x) σ → step (g x) σ K) →
    Ψ (acc ++ l.filterMap f) σ → compS step keep (l.map g) σ acc Ψ
  | [], acc, Ψ, _, h => by simpa [compS] using h
  | d :: ds, acc, Ψ, hs, h => by
    simp only [List.map_cons, compS]
    refine hs d List.mem_cons_self _ ⟨hk, compS_mapG g f hk ds _ (fun e he => hs e (List.mem_cons_of_mem _ he)) ?_⟩
    cases e : f d with
    | none => simpa [List.filterMap_cons, e] using h
    | some y => simpa [List.filterMap_cons, e] using h
theorem set_at (σ : Store) (a : Addr) (m : MObj) : (σ.set a m) a = some m := by unfold Store.set; rw [if_pos rfl]
theorem set_set (σ : Store) (a : Addr) (m n : MObj) : (σ.set a m).set a n = σ.set a n := by
  funext x
  unfold Store.set
  by_cases h : x = a
  · rw [if_pos h, if_pos h]
  · rw [if_neg h, if_neg h, if_neg h]
theorem retS_frz {Φ : D → Store → Prop} {a : Addr} {σ : Store} {ds : List D} (hf : freshIn σ a) (h : Φ (.list ds) σ) : retS Φ (.ret (.obj a) (σ.set a (.mlist ds))) := by
  refine ⟨.list ds, σ, ⟨fun x m e => ?_, .inr ⟨a, ds, rfl, set_at _ _ _, rfl, hf.1⟩⟩, h⟩
  unfold Store.set
  by_cases q : x = a
  · subst q; rw [hf.1] at e; cases e
  · rw [if_neg q]; exact e
theorem and_tt {X Y : Prop} (h : X) : (true = true → X) ∧ (true = false → Y) := ⟨fun _ => h, fun e => Bool.noConfusion e⟩
theorem and_ff {X Y : Prop} (h : Y) : (false = true → X) ∧ (false = false → Y) := ⟨fun e => Bool.noConfusion e, fun _ => h⟩
theorem and_ff' {X Y : Prop} (h : Y) : (true = false → X) ∧ (true = true → Y) := ⟨fun e => Bool.noConfusion e, fun _ => h⟩
theorem and_tf' {X Y : Prop} (h : X) : (false = false → X) ∧ (false = true → Y) := ⟨fun _ => h, fun e => Bool.noConfusion e⟩
theorem filterMap_int {α : Type} (f : α → Option Int) : ∀ l : List α, (l.filterMap fun x => (f x).map D.int) = (l.filterMap f).map D.int
  | [] => rfl
  | x :: r => by
    rw [List.filterMap_cons, List.filterMap_cons]
    cases e : f x with
    | none => simp only [Option.map_none]; exact filterMap_int f r
    | some i => simp only [Option.map_some, List.map_cons]; rw [filterMap_int f r]
end Mine
end
section
open PySem PySem.W PyProof.Rows
set_option Elab.async false
namespace Mine
/-- the order of lookup of a class of the fragment -/
noncomputable def mroK (K : Frag) (C : Addr) : List Value := match K.lookup C with
  | some ⟨_, _, .cls cd, _⟩ => cd.mro
  | _ => []
theorem exc_of_in {K : Frag} {h : Heap} {C : Addr} {bm : List Value} (X : K.In h) (q : excIn K C [.type "ValueError", .type "Exception", .type "BaseException", .type "object"] "ValueError.__new__" = true) (hm' : mroK K C = .ref C :: bm) : Exc h C bm := by
  refine ⟨_, _, _, PySem.F.excBase_ValueError, ?_⟩
  unfold excIn at q
  split at q
  · rename_i dd cd sl ho
    unfold mroK at hm'
    rw [ho] at hm'
    split at q
    · rename_i C' bm' k0 k1 k2 k3 n k5 hm hs
      simp only [Bool.and_eq_true, beq_iff_eq, Bool.not_eq_true'] at q
      obtain ⟨⟨⟨⟨⟨rfl, rfl⟩, hdel⟩, ht⟩, hok⟩, hni⟩ := q
      obtain ⟨nm, bs, mro, ns, qn, hd, sn, sub, ab, col, del⟩ := cd
      dsimp only at hm hdel hok hni hm'
      rw [hm] at hm'
      cases hm'
      subst hm hdel
      have hsl : sl = #[k0, k1, k2, k3, some (.builtin "ValueError.__new__"), k5] := by
        obtain ⟨l⟩ := sl
        simp only at hs
        rw [hs]
      subst hsl
      exact ⟨ns, nm, qn, bs, hd, sn, sub, ab, col, dd, k0, k1, k2, k3, k5, _, X _ _ ho, .of_isNs (isNs_of_in X hok), nsMap_none_of_in X hok hni, tail_of_in X ht⟩
    · cases q
  · cases q
theorem valid_no {c : Bx} {n : Nat} {f : Addr} {o : Obj} {fd : FuncData} (ho : c.b.get? f = some o) (hd : o.data = .func fd) : Valid c n f (fun _ _ _ _ => False) := ⟨⟨o, fd, ho, hd⟩, fun _ _ _ _ _ _ _ _ h => h.elim⟩
end Mine
end
section
open PySem PyProof.Rows
set_option Elab.async false
set_option maxRecDepth 20000
namespace Mine.L07

noncomputable def nm_is_whole : Nat → Str
  | 0 => PySem.Str.ofString "thing"
  | _ => ""

noncomputable def p_is_whole : List PS := [.ret (.bop .And [(.isi (.var 0 ⟨21, 22, 21, 27⟩) .int 0 ⟨21, 11, 21, 21⟩ 1 ⟨21, 29, 21, 32⟩ ⟨21, 11, 21, 33⟩), (.not (.isi (.var 0 ⟨21, 54, 21, 59⟩) .bool 0 ⟨21, 43, 21, 53⟩ 2 ⟨21, 61, 21, 65⟩ ⟨21, 43, 21, 66⟩) ⟨21, 39, 21, 66⟩)] ⟨21, 11, 21, 67⟩) ⟨21, 4, 21, 67⟩]

noncomputable def nm_Table___init__ : Nat → Str
  | 0 => PySem.Str.ofString "self"
  | 1 => PySem.Str.ofString "width"
  | _ => ""

noncomputable def p_Table___init__ : List PS := [.ite (.bop .Or [(.not (.call 3 ⟨77, 15, 77, 23⟩ [(.var 1 ⟨77, 24, 77, 29⟩)] ⟨77, 15, 77, 30⟩) ⟨77, 11, 77, 30⟩), (.not (.cmp2 .LtE .LtE (.cint 1 ⟨77, 38, 77, 39⟩) (.var 1 ⟨77, 43, 77, 48⟩) (.gint 4 6 ⟨77, 52, 77, 62⟩) ⟨77, 38, 77, 62⟩) ⟨77, 34, 77, 62⟩)] ⟨77, 11, 77, 62⟩) [.raise 44 5 ⟨78, 18, 78, 26⟩ "no such width" ⟨78, 27, 78, 42⟩ ⟨78, 18, 78, 43⟩ ⟨78, 12, 78, 43⟩] [] ⟨77, 8, 78, 43⟩,
    .sattr 362 (.var 0 ⟨79, 8, 79, 12⟩) "width" ⟨79, 8, 79, 18⟩ (.var 1 ⟨79, 21, 79, 26⟩) ⟨79, 8, 79, 26⟩,
    .sattr 362 (.var 0 ⟨80, 8, 80, 12⟩) "there" ⟨80, 8, 80, 18⟩ (.dct ⟨80, 21, 80, 23⟩) ⟨80, 8, 80, 23⟩,
    .sattr 362 (.var 0 ⟨81, 8, 81, 12⟩) "kept" ⟨81, 8, 81, 17⟩ (.list false [] ⟨81, 20, 81, 22⟩) ⟨81, 8, 81, 22⟩,
    .sattr 362 (.var 0 ⟨82, 8, 82, 12⟩) "following" ⟨82, 8, 82, 22⟩ (.cint 0 ⟨82, 25, 82, 26⟩) ⟨82, 8, 82, 26⟩]

noncomputable def nm_Table_has_column : Nat → Str
  | 0 => PySem.Str.ofString "self"
  | 1 => PySem.Str.ofString "column"
  | _ => ""

noncomputable def p_Table_has_column : List PS := [.ret (.bop .And [(.call 3 ⟨85, 15, 85, 23⟩ [(.var 1 ⟨85, 24, 85, 30⟩)] ⟨85, 15, 85, 31⟩), (.cmp2 .LtE .Lt (.cint 0 ⟨85, 36, 85, 37⟩) (.var 1 ⟨85, 41, 85, 47⟩) (.attr 362 (.var 0 ⟨85, 50, 85, 54⟩) "width" ⟨85, 50, 85, 60⟩) ⟨85, 36, 85, 60⟩)] ⟨85, 15, 85, 60⟩) ⟨85, 8, 85, 60⟩]

noncomputable def nm_Table_need_row : Nat → Str
  | 0 => PySem.Str.ofString "self"
  | 1 => PySem.Str.ofString "number"
  | _ => ""

noncomputable def p_Table_need_row : List PS := [.ite (.bop .Or [(.not (.call 3 ⟨88, 15, 88, 23⟩ [(.var 1 ⟨88, 24, 88, 30⟩)] ⟨88, 15, 88, 31⟩) ⟨88, 11, 88, 31⟩), (.cmp .NotIn (.var 1 ⟨88, 35, 88, 41⟩) (.attr 362 (.var 0 ⟨88, 49, 88, 53⟩) "there" ⟨88, 49, 88, 59⟩) ⟨88, 35, 88, 59⟩)] ⟨88, 11, 88, 59⟩) [.raise 80 6 ⟨89, 18, 89, 23⟩ "no such row" ⟨89, 24, 89, 37⟩ ⟨89, 18, 89, 38⟩ ⟨89, 12, 89, 38⟩] [] ⟨88, 8, 89, 38⟩]

noncomputable def nm_Table_put : Nat → Str
  | 0 => PySem.Str.ofString "self"
  | 1 => PySem.Str.ofString "row"
  | 2 => PySem.Str.ofString "thing"
  | 3 => PySem.Str.ofString "number"
  | 4 => PySem.Str.ofString "one"
  | _ => ""

noncomputable def p_Table_put : List PS := [.ite (.bop .Or [(.not (.isi2 (.var 1 ⟨109, 26, 109, 29⟩) 0 ⟨109, 15, 109, 25⟩ 7 ⟨109, 32, 109, 36⟩ 8 ⟨109, 38, 109, 43⟩ 0 ⟨109, 31, 109, 44⟩ ⟨109, 15, 109, 45⟩) ⟨109, 11, 109, 45⟩), (.cmp .NotEq (.bi .len false 9 ⟨109, 49, 109, 52⟩ [(.var 1 ⟨109, 53, 109, 56⟩)] ⟨109, 49, 109, 57⟩) (.attr 362 (.var 0 ⟨109, 61, 109, 65⟩) "width" ⟨109, 61, 109, 71⟩) ⟨109, 49, 109, 71⟩)] ⟨109, 11, 109, 71⟩) [.raise 56 10 ⟨110, 18, 110, 24⟩ "no row" ⟨110, 25, 110, 33⟩ ⟨110, 18, 110, 34⟩ ⟨110, 12, 110, 34⟩] [] ⟨109, 8, 110, 34⟩,
    .loop 2 ⟨111, 12, 111, 17⟩ (.of (.var 1 ⟨111, 21, 111, 24⟩)) [.ite (.not (.call 3 ⟨112, 19, 112, 27⟩ [(.var 2 ⟨112, 28, 112, 33⟩)] ⟨112, 19, 112, 34⟩) ⟨112, 15, 112, 34⟩) [.raise 56 10 ⟨113, 22, 113, 28⟩ "no whole number" ⟨113, 29, 113, 46⟩ ⟨113, 22, 113, 47⟩ ⟨113, 16, 113, 47⟩] [] ⟨112, 12, 113, 47⟩] ⟨111, 8, 113, 47⟩,
    .ite (.cmp .Eq (.bi .lenD false 9 ⟨114, 11, 114, 14⟩ [(.attr 362 (.var 0 ⟨114, 15, 114, 19⟩) "there" ⟨114, 15, 114, 25⟩)] ⟨114, 11, 114, 26⟩) (.gint 11 200 ⟨114, 30, 114, 39⟩) ⟨114, 11, 114, 39⟩) [.raise 68 12 ⟨115, 18, 115, 22⟩ "no room" ⟨115, 23, 115, 32⟩ ⟨115, 18, 115, 33⟩ ⟨115, 12, 115, 33⟩] [] ⟨114, 8, 115, 33⟩,
    .assign 3 ⟨116, 8, 116, 14⟩ (.attr 362 (.var 0 ⟨116, 17, 116, 21⟩) "following" ⟨116, 17, 116, 31⟩) ⟨116, 8, 116, 31⟩,
    .sattr 362 (.var 0 ⟨117, 8, 117, 12⟩) "following" ⟨117, 8, 117, 22⟩ (.bin .Add (.var 3 ⟨117, 25, 117, 31⟩) (.cint 1 ⟨117, 34, 117, 35⟩) ⟨117, 25, 117, 35⟩) ⟨117, 8, 117, 35⟩,
    .ssub (.attr 362 (.var 0 ⟨118, 8, 118, 12⟩) "there" ⟨118, 8, 118, 18⟩) (.var 3 ⟨118, 19, 118, 25⟩) ⟨118, 8, 118, 26⟩ (.bi .tupleA false 8 ⟨118, 29, 118, 34⟩ [(.var 1 ⟨118, 35, 118, 38⟩)] ⟨118, 29, 118, 39⟩) ⟨118, 8, 118, 39⟩,
    .loop 4 ⟨119, 12, 119, 15⟩ (.of (.attr 362 (.var 0 ⟨119, 19, 119, 23⟩) "kept" ⟨119, 19, 119, 28⟩)) [.expr (.meth 196 13 (.var 4 ⟨120, 12, 120, 15⟩) "put" ⟨120, 12, 120, 19⟩ [(.var 3 ⟨120, 20, 120, 26⟩), (.subd (.attr 362 (.var 0 ⟨120, 28, 120, 32⟩) "there" ⟨120, 28, 120, 38⟩) (.var 3 ⟨120, 39, 120, 45⟩) ⟨120, 28, 120, 46⟩)] ⟨120, 12, 120, 47⟩) ⟨120, 12, 120, 47⟩] ⟨119, 8, 120, 47⟩,
    .ret (.var 3 ⟨121, 15, 121, 21⟩) ⟨121, 8, 121, 21⟩]

noncomputable def nm_Table_drop : Nat → Str
  | 0 => PySem.Str.ofString "self"
  | 1 => PySem.Str.ofString "number"
  | 2 => PySem.Str.ofString "row"
  | 3 => PySem.Str.ofString "one"
  | _ => ""

noncomputable def p_Table_drop : List PS := [.expr (.meth 362 14 (.var 0 ⟨124, 8, 124, 12⟩) "need_row" ⟨124, 8, 124, 21⟩ [(.var 1 ⟨124, 22, 124, 28⟩)] ⟨124, 8, 124, 29⟩) ⟨124, 8, 124, 29⟩,
    .assign 2 ⟨125, 8, 125, 11⟩ (.lm .dpop (.attr 362 (.var 0 ⟨125, 14, 125, 18⟩) "there" ⟨125, 14, 125, 24⟩) ⟨125, 14, 125, 28⟩ [(.var 1 ⟨125, 29, 125, 35⟩)] ⟨125, 14, 125, 36⟩) ⟨125, 8, 125, 36⟩,
    .loop 3 ⟨126, 12, 126, 15⟩ (.of (.attr 362 (.var 0 ⟨126, 19, 126, 23⟩) "kept" ⟨126, 19, 126, 28⟩)) [.expr (.meth 196 15 (.var 3 ⟨127, 12, 127, 15⟩) "drop" ⟨127, 12, 127, 20⟩ [(.var 1 ⟨127, 21, 127, 27⟩), (.var 2 ⟨127, 29, 127, 32⟩)] ⟨127, 12, 127, 33⟩) ⟨127, 12, 127, 33⟩] ⟨126, 8, 127, 33⟩]

noncomputable def nm_Table_change : Nat → Str
  | 0 => PySem.Str.ofString "self"
  | 1 => PySem.Str.ofString "number"
  | 2 => PySem.Str.ofString "column"
  | 3 => PySem.Str.ofString "value"
  | 4 => PySem.Str.ofString "before"
  | 5 => PySem.Str.ofString "after"
  | 6 => PySem.Str.ofString "one"
  | _ => ""

noncomputable def p_Table_change : List PS := [.expr (.meth 362 14 (.var 0 ⟨130, 8, 130, 12⟩) "need_row" ⟨130, 8, 130, 21⟩ [(.var 1 ⟨130, 22, 130, 28⟩)] ⟨130, 8, 130, 29⟩) ⟨130, 8, 130, 29⟩,
    .ite (.not (.meth 362 16 (.var 0 ⟨131, 15, 131, 19⟩) "has_column" ⟨131, 15, 131, 30⟩ [(.var 2 ⟨131, 31, 131, 37⟩)] ⟨131, 15, 131, 38⟩) ⟨131, 11, 131, 38⟩) [.raise 92 17 ⟨132, 18, 132, 27⟩ "no such column" ⟨132, 28, 132, 44⟩ ⟨132, 18, 132, 45⟩ ⟨132, 12, 132, 45⟩] [] ⟨131, 8, 132, 45⟩,
    .ite (.not (.call 3 ⟨133, 15, 133, 23⟩ [(.var 3 ⟨133, 24, 133, 29⟩)] ⟨133, 15, 133, 30⟩) ⟨133, 11, 133, 30⟩) [.raise 56 10 ⟨134, 18, 134, 24⟩ "no whole number" ⟨134, 25, 134, 42⟩ ⟨134, 18, 134, 43⟩ ⟨134, 12, 134, 43⟩] [] ⟨133, 8, 134, 43⟩,
    .assign 4 ⟨135, 8, 135, 14⟩ (.subd (.attr 362 (.var 0 ⟨135, 17, 135, 21⟩) "there" ⟨135, 17, 135, 27⟩) (.var 1 ⟨135, 28, 135, 34⟩) ⟨135, 17, 135, 35⟩) ⟨135, 8, 135, 35⟩,
    .assign 5 ⟨136, 8, 136, 13⟩ (.bin .Add (.bin .Add (.slc false (.var 4 ⟨136, 16, 136, 22⟩) Option.none (some (.var 2 ⟨136, 24, 136, 30⟩)) ⟨136, 23, 136, 30⟩ ⟨136, 16, 136, 31⟩) (.tup [(.var 3 ⟨136, 35, 136, 40⟩)] 0 ⟨136, 34, 136, 42⟩) ⟨136, 16, 136, 42⟩) (.slc false (.var 4 ⟨136, 45, 136, 51⟩) (some (.bin .Add (.var 2 ⟨136, 52, 136, 58⟩) (.cint 1 ⟨136, 61, 136, 62⟩) ⟨136, 52, 136, 62⟩)) Option.none ⟨136, 52, 136, 63⟩ ⟨136, 45, 136, 64⟩) ⟨136, 16, 136, 64⟩) ⟨136, 8, 136, 64⟩,
    .ssub (.attr 362 (.var 0 ⟨137, 8, 137, 12⟩) "there" ⟨137, 8, 137, 18⟩) (.var 1 ⟨137, 19, 137, 25⟩) ⟨137, 8, 137, 26⟩ (.var 5 ⟨137, 29, 137, 34⟩) ⟨137, 8, 137, 34⟩,
    .loop 6 ⟨138, 12, 138, 15⟩ (.of (.attr 362 (.var 0 ⟨138, 19, 138, 23⟩) "kept" ⟨138, 19, 138, 28⟩)) [.expr (.meth 196 15 (.var 6 ⟨139, 12, 139, 15⟩) "drop" ⟨139, 12, 139, 20⟩ [(.var 1 ⟨139, 21, 139, 27⟩), (.var 4 ⟨139, 29, 139, 35⟩)] ⟨139, 12, 139, 36⟩) ⟨139, 12, 139, 36⟩,
    .expr (.meth 196 13 (.var 6 ⟨140, 12, 140, 15⟩) "put" ⟨140, 12, 140, 19⟩ [(.var 1 ⟨140, 20, 140, 26⟩), (.var 5 ⟨140, 28, 140, 33⟩)] ⟨140, 12, 140, 34⟩) ⟨140, 12, 140, 34⟩] ⟨138, 8, 140, 34⟩]

noncomputable def nm_Table_row : Nat → Str
  | 0 => PySem.Str.ofString "self"
  | 1 => PySem.Str.ofString "number"
  | _ => ""

noncomputable def p_Table_row : List PS := [.expr (.meth 362 14 (.var 0 ⟨143, 8, 143, 12⟩) "need_row" ⟨143, 8, 143, 21⟩ [(.var 1 ⟨143, 22, 143, 28⟩)] ⟨143, 8, 143, 29⟩) ⟨143, 8, 143, 29⟩,
    .ret (.subd (.attr 362 (.var 0 ⟨144, 15, 144, 19⟩) "there" ⟨144, 15, 144, 25⟩) (.var 1 ⟨144, 26, 144, 32⟩) ⟨144, 15, 144, 33⟩) ⟨144, 8, 144, 33⟩]

noncomputable def nm_Table_numbers : Nat → Str
  | 0 => PySem.Str.ofString "self"
  | _ => ""

noncomputable def p_Table_numbers : List PS := [.ret (.bi .sorted true 18 ⟨147, 15, 147, 21⟩ [(.bi .listD false 7 ⟨147, 22, 147, 26⟩ [(.attr 362 (.var 0 ⟨147, 27, 147, 31⟩) "there" ⟨147, 27, 147, 37⟩)] ⟨147, 22, 147, 38⟩)] ⟨147, 15, 147, 39⟩) ⟨147, 8, 147, 39⟩]

noncomputable def nm_law_whole : Nat → Str
  | 0 => PySem.Str.ofString "_law_found"
  | _ => ""

noncomputable def p_law_whole : List PS := [.ret (.bop .And [(.isi (.var 0 ⟨189, 22, 189, 32⟩) .int 0 ⟨189, 11, 189, 21⟩ 1 ⟨189, 34, 189, 37⟩ ⟨189, 11, 189, 38⟩), (.not (.isi (.var 0 ⟨189, 59, 189, 69⟩) .bool 0 ⟨189, 48, 189, 58⟩ 2 ⟨189, 71, 189, 75⟩ ⟨189, 48, 189, 76⟩) ⟨189, 44, 189, 76⟩)] ⟨189, 11, 189, 77⟩) ⟨189, 4, 189, 77⟩]

noncomputable def nm_law_at : Nat → Str
  | 0 => PySem.Str.ofString "_law_script"
  | 1 => PySem.Str.ofString "_law_k"
  | _ => ""

noncomputable def p_law_at : List PS := [.ite (.cmp .Lt (.var 1 ⟨191, 7, 191, 13⟩) (.bi .len false 9 ⟨191, 16, 191, 19⟩ [(.var 0 ⟨191, 20, 191, 31⟩)] ⟨191, 16, 191, 32⟩) ⟨191, 7, 191, 32⟩) [.ret (.sub (.var 0 ⟨192, 15, 192, 26⟩) (.var 1 ⟨192, 27, 192, 33⟩) ⟨192, 15, 192, 34⟩) ⟨192, 8, 192, 34⟩] [] ⟨191, 4, 192, 34⟩,
    .ret (.cint 0 ⟨193, 11, 193, 12⟩) ⟨193, 4, 193, 12⟩]

noncomputable def nm_law_value : Nat → Str
  | 0 => PySem.Str.ofString "_law_cell"
  | _ => ""

noncomputable def p_law_value : List PS := [.ite (.cmp .Eq (.bin .Mod (.var 0 ⟨195, 7, 195, 16⟩) (.cint 16 ⟨195, 19, 195, 21⟩) ⟨195, 7, 195, 21⟩) (.cint 0 ⟨195, 25, 195, 26⟩) ⟨195, 7, 195, 26⟩) [.ret (.bin .Sub (.bin .Pow (.cint 10 ⟨196, 15, 196, 17⟩) (.cint 30 ⟨196, 21, 196, 23⟩) ⟨196, 15, 196, 23⟩) (.bin .Mod (.bin .FloorDiv (.var 0 ⟨196, 26, 196, 35⟩) (.cint 16 ⟨196, 39, 196, 41⟩) ⟨196, 26, 196, 41⟩) (.cint 3 ⟨196, 44, 196, 45⟩) ⟨196, 26, 196, 45⟩) ⟨196, 15, 196, 45⟩) ⟨196, 8, 196, 45⟩] [] ⟨195, 4, 196, 45⟩,
    .ite (.cmp .Eq (.bin .Mod (.var 0 ⟨197, 7, 197, 16⟩) (.cint 16 ⟨197, 19, 197, 21⟩) ⟨197, 7, 197, 21⟩) (.cint 1 ⟨197, 25, 197, 26⟩) ⟨197, 7, 197, 26⟩) [.ret (.bin .Sub (.bin .Mod (.bin .FloorDiv (.var 0 ⟨198, 15, 198, 24⟩) (.cint 16 ⟨198, 28, 198, 30⟩) ⟨198, 15, 198, 30⟩) (.cint 3 ⟨198, 33, 198, 34⟩) ⟨198, 15, 198, 34⟩) (.bin .Pow (.cint 10 ⟨198, 37, 198, 39⟩) (.cint 30 ⟨198, 43, 198, 45⟩) ⟨198, 37, 198, 45⟩) ⟨198, 15, 198, 45⟩) ⟨198, 8, 198, 45⟩] [] ⟨197, 4, 198, 45⟩,
    .ite (.cmp .Lt (.bin .Mod (.var 0 ⟨199, 7, 199, 16⟩) (.cint 16 ⟨199, 19, 199, 21⟩) ⟨199, 7, 199, 21⟩) (.cint 4 ⟨199, 24, 199, 25⟩) ⟨199, 7, 199, 25⟩) [.ret (.bin .Sub (.bin .Mod (.bin .FloorDiv (.var 0 ⟨200, 15, 200, 24⟩) (.cint 16 ⟨200, 28, 200, 30⟩) ⟨200, 15, 200, 30⟩) (.cint 2003 ⟨200, 33, 200, 37⟩) ⟨200, 15, 200, 37⟩) (.cint 1001 ⟨200, 40, 200, 44⟩) ⟨200, 15, 200, 44⟩) ⟨200, 8, 200, 44⟩] [] ⟨199, 4, 200, 44⟩,
    .ite (.cmp .Lt (.bin .Mod (.var 0 ⟨201, 7, 201, 16⟩) (.cint 16 ⟨201, 19, 201, 21⟩) ⟨201, 7, 201, 21⟩) (.cint 6 ⟨201, 24, 201, 25⟩) ⟨201, 7, 201, 25⟩) [.ret (.bin .Sub (.bin .Mod (.bin .FloorDiv (.var 0 ⟨202, 15, 202, 24⟩) (.cint 16 ⟨202, 28, 202, 30⟩) ⟨202, 15, 202, 30⟩) (.bin .Mult (.cint 2 ⟨202, 34, 202, 35⟩) (.bin .Pow (.cint 10 ⟨202, 38, 202, 40⟩) (.cint 30 ⟨202, 44, 202, 46⟩) ⟨202, 38, 202, 46⟩) ⟨202, 34, 202, 46⟩) ⟨202, 15, 202, 47⟩) (.bin .Pow (.cint 10 ⟨202, 50, 202, 52⟩) (.cint 30 ⟨202, 56, 202, 58⟩) ⟨202, 50, 202, 58⟩) ⟨202, 15, 202, 58⟩) ⟨202, 8, 202, 58⟩] [] ⟨201, 4, 202, 58⟩,
    .ite (.cmp .Eq (.bin .Mod (.var 0 ⟨203, 7, 203, 16⟩) (.cint 16 ⟨203, 19, 203, 21⟩) ⟨203, 7, 203, 21⟩) (.cint 6 ⟨203, 25, 203, 26⟩) ⟨203, 7, 203, 26⟩) [.ret (.bin .Mod (.bin .FloorDiv (.var 0 ⟨204, 15, 204, 24⟩) (.cint 16 ⟨204, 28, 204, 30⟩) ⟨204, 15, 204, 30⟩) (.bin .Pow (.cint 10 ⟨204, 33, 204, 35⟩) (.cint 40 ⟨204, 39, 204, 41⟩) ⟨204, 33, 204, 41⟩) ⟨204, 15, 204, 41⟩) ⟨204, 8, 204, 41⟩] [] ⟨203, 4, 204, 41⟩,
    .ite (.cmp .Lt (.bin .Mod (.var 0 ⟨205, 7, 205, 16⟩) (.cint 16 ⟨205, 19, 205, 21⟩) ⟨205, 7, 205, 21⟩) (.cint 10 ⟨205, 24, 205, 26⟩) ⟨205, 7, 205, 26⟩) [.ret (.bin .Sub (.bin .Mod (.bin .FloorDiv (.var 0 ⟨206, 15, 206, 24⟩) (.cint 16 ⟨206, 28, 206, 30⟩) ⟨206, 15, 206, 30⟩) (.cint 60 ⟨206, 33, 206, 35⟩) ⟨206, 15, 206, 35⟩) (.cint 20 ⟨206, 38, 206, 40⟩) ⟨206, 15, 206, 40⟩) ⟨206, 8, 206, 40⟩] [] ⟨205, 4, 206, 40⟩,
    .ret (.bin .Mod (.bin .FloorDiv (.var 0 ⟨207, 11, 207, 20⟩) (.cint 16 ⟨207, 24, 207, 26⟩) ⟨207, 11, 207, 26⟩) (.cint 3 ⟨207, 29, 207, 30⟩) ⟨207, 11, 207, 30⟩) ⟨207, 4, 207, 30⟩]

noncomputable def nm_law_row : Nat → Str
  | 0 => PySem.Str.ofString "_law_cell"
  | 1 => PySem.Str.ofString "_law_width"
  | 2 => PySem.Str.ofString "_law_k"
  | _ => ""

noncomputable def p_law_row : List PS := [.ret (.comp false (.call 20 ⟨209, 12, 209, 22⟩ [(.bin .FloorDiv (.bin .Pow (.bin .Add (.bin .Mult (.var 0 ⟨209, 24, 209, 33⟩) (.cint 48271 ⟨209, 36, 209, 41⟩) ⟨209, 24, 209, 41⟩) (.bin .Mult (.cint 7919 ⟨209, 44, 209, 48⟩) (.var 2 ⟨209, 51, 209, 57⟩) ⟨209, 44, 209, 57⟩) ⟨209, 24, 209, 57⟩) (.cint 3 ⟨209, 62, 209, 63⟩) ⟨209, 23, 209, 63⟩) (.cint 11 ⟨209, 67, 209, 69⟩) ⟨209, 23, 209, 69⟩)] ⟨209, 12, 209, 70⟩) 2 ⟨209, 75, 209, 81⟩ (.range 19 ⟨209, 85, 209, 90⟩ (.var 1 ⟨209, 91, 209, 101⟩) ⟨209, 85, 209, 102⟩) [] { kind := .function, names := [(PySem.Str.ofString ".0", .local), (PySem.Str.ofString "_law_k", .local), (PySem.Str.ofString "_law_value", .globalImplicit), (PySem.Str.ofString "_law_cell", .free)], isGenerator := false, isCoroutine := false, more := [] } [0] ⟨209, 11, 209, 103⟩) ⟨209, 4, 209, 103⟩]

noncomputable def nm_law_same : Nat → Str
  | 0 => PySem.Str.ofString "_law_found"
  | 1 => PySem.Str.ofString "_law_row_here"
  | 2 => PySem.Str.ofString "_law_k"
  | _ => ""

noncomputable def p_law_same : List PS := [.ite (.bop .Or [(.not (.isi (.var 0 ⟨211, 22, 211, 32⟩) .tuple 0 ⟨211, 11, 211, 21⟩ 8 ⟨211, 34, 211, 39⟩ ⟨211, 11, 211, 40⟩) ⟨211, 7, 211, 40⟩), (.cmp .NotEq (.bi .len false 9 ⟨211, 44, 211, 47⟩ [(.var 0 ⟨211, 48, 211, 58⟩)] ⟨211, 44, 211, 59⟩) (.bi .len false 9 ⟨211, 63, 211, 66⟩ [(.var 1 ⟨211, 67, 211, 80⟩)] ⟨211, 63, 211, 81⟩) ⟨211, 44, 211, 81⟩)] ⟨211, 7, 211, 81⟩) [.ret (.cbool false ⟨212, 15, 212, 20⟩) ⟨212, 8, 212, 20⟩] [] ⟨211, 4, 212, 20⟩,
    .loop 2 ⟨213, 8, 213, 14⟩ (.range 19 ⟨213, 18, 213, 23⟩ (.bi .len false 9 ⟨213, 24, 213, 27⟩ [(.var 1 ⟨213, 28, 213, 41⟩)] ⟨213, 24, 213, 42⟩) ⟨213, 18, 213, 43⟩) [.ite (.bop .Or [(.not (.call 21 ⟨214, 15, 214, 25⟩ [(.sub (.var 0 ⟨214, 26, 214, 36⟩) (.var 2 ⟨214, 37, 214, 43⟩) ⟨214, 26, 214, 44⟩)] ⟨214, 15, 214, 45⟩) ⟨214, 11, 214, 45⟩), (.cmp .NotEq (.sub (.var 0 ⟨214, 49, 214, 59⟩) (.var 2 ⟨214, 60, 214, 66⟩) ⟨214, 49, 214, 67⟩) (.sub (.var 1 ⟨214, 71, 214, 84⟩) (.var 2 ⟨214, 85, 214, 91⟩) ⟨214, 71, 214, 92⟩) ⟨214, 49, 214, 92⟩)] ⟨214, 11, 214, 92⟩) [.ret (.cbool false ⟨215, 19, 215, 24⟩) ⟨215, 12, 215, 24⟩] [] ⟨214, 8, 215, 24⟩] ⟨213, 4, 215, 24⟩,
    .ret (.cbool true ⟨216, 11, 216, 15⟩) ⟨216, 4, 216, 15⟩]

noncomputable def nm_law_said : Nat → Str
  | 0 => PySem.Str.ofString "_law_table"
  | 1 => PySem.Str.ofString "_law_kind"
  | 2 => PySem.Str.ofString "_law_number"
  | 3 => PySem.Str.ofString "_law_column"
  | 4 => PySem.Str.ofString "_law_value_here"
  | _ => ""

noncomputable def p_law_said : List PS := [.try [.ite (.cmp .Eq (.var 1 ⟨219, 11, 219, 20⟩) (.cint 3 ⟨219, 24, 219, 25⟩) ⟨219, 11, 219, 25⟩) [.ret (.tup [(.cstr "given" ⟨220, 20, 220, 27⟩), (.meth 362 22 (.var 0 ⟨220, 29, 220, 39⟩) "drop" ⟨220, 29, 220, 44⟩ [(.var 2 ⟨220, 45, 220, 56⟩)] ⟨220, 29, 220, 57⟩)] 0 ⟨220, 19, 220, 58⟩) ⟨220, 12, 220, 58⟩] [] ⟨219, 8, 220, 58⟩,
    .ite (.cmp .Eq (.var 1 ⟨221, 11, 221, 20⟩) (.cint 4 ⟨221, 24, 221, 25⟩) ⟨221, 11, 221, 25⟩) [.ret (.tup [(.cstr "given" ⟨222, 20, 222, 27⟩), (.meth 362 23 (.var 0 ⟨222, 29, 222, 39⟩) "change" ⟨222, 29, 222, 46⟩ [(.var 2 ⟨222, 47, 222, 58⟩), (.var 3 ⟨222, 60, 222, 71⟩), (.var 4 ⟨222, 73, 222, 88⟩)] ⟨222, 29, 222, 89⟩)] 0 ⟨222, 19, 222, 90⟩) ⟨222, 12, 222, 90⟩] [] ⟨221, 8, 222, 90⟩,
    .ret (.tup [(.cstr "given" ⟨223, 16, 223, 23⟩), (.meth 362 24 (.var 0 ⟨223, 25, 223, 35⟩) "row" ⟨223, 25, 223, 39⟩ [(.var 2 ⟨223, 40, 223, 51⟩)] ⟨223, 25, 223, 52⟩)] 0 ⟨223, 15, 223, 53⟩) ⟨223, 8, 223, 53⟩] [.mk [80] [92, 56] 6 ⟨224, 11, 224, 16⟩ [.ret (.tup [(.cstr "no row" ⟨225, 16, 225, 24⟩), (.cnone ⟨225, 26, 225, 30⟩)] 0 ⟨225, 15, 225, 31⟩) ⟨225, 8, 225, 31⟩] ⟨224, 4, 225, 31⟩, .mk [92] [80, 56] 17 ⟨226, 11, 226, 20⟩ [.ret (.tup [(.cstr "bad column" ⟨227, 16, 227, 28⟩), (.cnone ⟨227, 30, 227, 34⟩)] 0 ⟨227, 15, 227, 35⟩) ⟨227, 8, 227, 35⟩] ⟨226, 4, 227, 35⟩, .mk [56] [80, 92] 10 ⟨228, 11, 228, 17⟩ [.ret (.tup [(.cstr "bad row" ⟨229, 16, 229, 25⟩), (.cnone ⟨229, 27, 229, 31⟩)] 0 ⟨229, 15, 229, 32⟩) ⟨229, 8, 229, 32⟩] ⟨228, 4, 229, 32⟩] ⟨218, 4, 229, 32⟩]

noncomputable def nm_law_any : Nat → Str
  | 0 => PySem.Str.ofString "_law_table"
  | 1 => PySem.Str.ofString "_law_number"
  | 2 => PySem.Str.ofString "e"
  | _ => ""

noncomputable def p_law_any : List PS := [.try [.expr (.meth 362 22 (.var 0 ⟨232, 8, 232, 18⟩) "drop" ⟨232, 8, 232, 23⟩ [(.var 1 ⟨232, 24, 232, 35⟩)] ⟨232, 8, 232, 36⟩) ⟨232, 8, 232, 36⟩] [.as [80, 92, 56] [] 25 ⟨233, 11, 233, 20⟩ 2 (.isx 2 ⟨234, 26, 234, 27⟩ [80, 92, 56] [] 0 ⟨234, 15, 234, 25⟩ 26 ⟨234, 29, 234, 39⟩ ⟨234, 15, 234, 40⟩) ⟨234, 8, 234, 40⟩ ⟨233, 4, 234, 40⟩] ⟨231, 4, 234, 40⟩,
    .ret (.cbool false ⟨235, 11, 235, 16⟩) ⟨235, 4, 235, 16⟩]

noncomputable def nm_law_deed : Nat → Str
  | 0 => PySem.Str.ofString "_law_table"
  | 1 => PySem.Str.ofString "_law_there"
  | 2 => PySem.Str.ofString "_law_deed_here"
  | 3 => PySem.Str.ofString "_law_made"
  | 4 => PySem.Str.ofString "_law_kind"
  | 5 => PySem.Str.ofString "_law_more"
  | 6 => PySem.Str.ofString "_law_number"
  | 7 => PySem.Str.ofString "_law_column"
  | 8 => PySem.Str.ofString "_law_value_here"
  | 9 => PySem.Str.ofString "_law_word"
  | 10 => PySem.Str.ofString "_law_said_here"
  | 11 => PySem.Str.ofString "_law_row_here"
  | _ => ""

noncomputable def p_law_deed : List PS := [.assign 4 ⟨237, 4, 237, 13⟩ (.bin .Add (.cint 3 ⟨237, 16, 237, 17⟩) (.bin .Mod (.var 2 ⟨237, 20, 237, 34⟩) (.cint 3 ⟨237, 37, 237, 38⟩) ⟨237, 20, 237, 38⟩) ⟨237, 16, 237, 38⟩) ⟨237, 4, 237, 38⟩,
    .assign 5 ⟨238, 4, 238, 13⟩ (.bin .FloorDiv (.var 2 ⟨238, 16, 238, 30⟩) (.cint 6 ⟨238, 34, 238, 35⟩) ⟨238, 16, 238, 35⟩) ⟨238, 4, 238, 35⟩,
    .assign 6 ⟨239, 4, 239, 15⟩ (.bin .Sub (.bin .Mod (.var 5 ⟨239, 18, 239, 27⟩) (.bin .Add (.var 3 ⟨239, 31, 239, 40⟩) (.cint 3 ⟨239, 43, 239, 44⟩) ⟨239, 31, 239, 44⟩) ⟨239, 18, 239, 45⟩) (.cint 1 ⟨239, 48, 239, 49⟩) ⟨239, 18, 239, 49⟩) ⟨239, 4, 239, 49⟩,
    .assign 7 ⟨240, 4, 240, 15⟩ (.bin .Sub (.bin .Mod (.bin .FloorDiv (.var 5 ⟨240, 18, 240, 27⟩) (.cint 3 ⟨240, 31, 240, 32⟩) ⟨240, 18, 240, 32⟩) (.bin .Add (.attr 362 (.var 0 ⟨240, 36, 240, 46⟩) "width" ⟨240, 36, 240, 52⟩) (.cint 2 ⟨240, 55, 240, 56⟩) ⟨240, 36, 240, 56⟩) ⟨240, 18, 240, 57⟩) (.cint 1 ⟨240, 60, 240, 61⟩) ⟨240, 18, 240, 61⟩) ⟨240, 4, 240, 61⟩,
    .assign 8 ⟨241, 4, 241, 19⟩ (.call 20 ⟨241, 22, 241, 32⟩ [(.bin .FloorDiv (.bin .Pow (.bin .Add (.bin .Mult (.var 5 ⟨241, 34, 241, 43⟩) (.cint 48271 ⟨241, 46, 241, 51⟩) ⟨241, 34, 241, 51⟩) (.cint 7 ⟨241, 54, 241, 55⟩) ⟨241, 34, 241, 55⟩) (.cint 3 ⟨241, 60, 241, 61⟩) ⟨241, 33, 241, 61⟩) (.cint 11 ⟨241, 65, 241, 67⟩) ⟨241, 33, 241, 67⟩)] ⟨241, 22, 241, 68⟩) ⟨241, 4, 241, 68⟩,
    .ite (.cmp .Eq (.bin .Mod (.var 5 ⟨242, 7, 242, 16⟩) (.cint 11 ⟨242, 19, 242, 21⟩) ⟨242, 7, 242, 21⟩) (.cint 5 ⟨242, 25, 242, 26⟩) ⟨242, 7, 242, 26⟩) [.assign 8 ⟨243, 8, 243, 23⟩ (.sub (.list false [(.cbool true ⟨243, 27, 243, 31⟩), (.cbool false ⟨243, 33, 243, 38⟩), (.cnone ⟨243, 40, 243, 44⟩), (.cstr "1" ⟨243, 46, 243, 49⟩), (.list false [(.cint 1 ⟨243, 52, 243, 53⟩)] ⟨243, 51, 243, 54⟩), (.tup [(.cint 1 ⟨243, 57, 243, 58⟩)] 0 ⟨243, 56, 243, 60⟩)] ⟨243, 26, 243, 61⟩) (.bin .Mod (.bin .FloorDiv (.var 5 ⟨243, 62, 243, 71⟩) (.cint 11 ⟨243, 75, 243, 77⟩) ⟨243, 62, 243, 77⟩) (.cint 6 ⟨243, 80, 243, 81⟩) ⟨243, 62, 243, 81⟩) ⟨243, 26, 243, 82⟩) ⟨243, 8, 243, 82⟩] [] ⟨242, 4, 243, 82⟩,
    .ite (.cmp .Eq (.bin .Mod (.var 5 ⟨244, 7, 244, 16⟩) (.cint 11 ⟨244, 19, 244, 21⟩) ⟨244, 7, 244, 21⟩) (.cint 6 ⟨244, 25, 244, 26⟩) ⟨244, 7, 244, 26⟩) [.assign 6 ⟨245, 8, 245, 19⟩ (.sub (.list false [(.cbool true ⟨245, 23, 245, 27⟩), (.cbool false ⟨245, 29, 245, 34⟩), (.cnone ⟨245, 36, 245, 40⟩), (.cstr "0" ⟨245, 42, 245, 45⟩), (.bin .Pow (.cint 10 ⟨245, 47, 245, 49⟩) (.cint 30 ⟨245, 53, 245, 55⟩) ⟨245, 47, 245, 55⟩), (.bin .Sub (.cint 0 ⟨245, 57, 245, 58⟩) (.bin .Pow (.cint 10 ⟨245, 61, 245, 63⟩) (.cint 30 ⟨245, 67, 245, 69⟩) ⟨245, 61, 245, 69⟩) ⟨245, 57, 245, 69⟩)] ⟨245, 22, 245, 70⟩) (.bin .Mod (.bin .FloorDiv (.var 5 ⟨245, 71, 245, 80⟩) (.cint 11 ⟨245, 84, 245, 86⟩) ⟨245, 71, 245, 86⟩) (.cint 6 ⟨245, 89, 245, 90⟩) ⟨245, 71, 245, 90⟩) ⟨245, 22, 245, 91⟩) ⟨245, 8, 245, 91⟩] [] ⟨244, 4, 245, 91⟩,
    .ite (.cmp .Eq (.bin .Mod (.var 5 ⟨246, 7, 246, 16⟩) (.cint 11 ⟨246, 19, 246, 21⟩) ⟨246, 7, 246, 21⟩) (.cint 7 ⟨246, 25, 246, 26⟩) ⟨246, 7, 246, 26⟩) [.assign 7 ⟨247, 8, 247, 19⟩ (.sub (.list false [(.cbool true ⟨247, 23, 247, 27⟩), (.cbool false ⟨247, 29, 247, 34⟩), (.cnone ⟨247, 36, 247, 40⟩), (.cstr "0" ⟨247, 42, 247, 45⟩), (.bin .Sub (.cint 0 ⟨247, 47, 247, 48⟩) (.cint 2 ⟨247, 51, 247, 52⟩) ⟨247, 47, 247, 52⟩), (.bin .Pow (.cint 10 ⟨247, 54, 247, 56⟩) (.cint 30 ⟨247, 60, 247, 62⟩) ⟨247, 54, 247, 62⟩)] ⟨247, 22, 247, 63⟩) (.bin .Mod (.bin .FloorDiv (.var 5 ⟨247, 64, 247, 73⟩) (.cint 11 ⟨247, 77, 247, 79⟩) ⟨247, 64, 247, 79⟩) (.cint 6 ⟨247, 82, 247, 83⟩) ⟨247, 64, 247, 83⟩) ⟨247, 22, 247, 84⟩) ⟨247, 8, 247, 84⟩] [] ⟨246, 4, 247, 84⟩,
    .assign 9 ⟨248, 4, 248, 13⟩ (.cstr "given" ⟨248, 16, 248, 23⟩) ⟨248, 4, 248, 23⟩,
    .ite (.bop .Or [(.not (.call 21 ⟨249, 11, 249, 21⟩ [(.var 6 ⟨249, 22, 249, 33⟩)] ⟨249, 11, 249, 34⟩) ⟨249, 7, 249, 34⟩), (.cmp .NotIn (.var 6 ⟨249, 38, 249, 49⟩) (.var 1 ⟨249, 57, 249, 67⟩) ⟨249, 38, 249, 67⟩)] ⟨249, 7, 249, 67⟩) [.assign 9 ⟨250, 8, 250, 17⟩ (.cstr "no row" ⟨250, 20, 250, 28⟩) ⟨250, 8, 250, 28⟩] [.ite (.bop .And [(.cmp .Eq (.var 4 ⟨251, 9, 251, 18⟩) (.cint 4 ⟨251, 22, 251, 23⟩) ⟨251, 9, 251, 23⟩), (.bop .Or [(.not (.call 21 ⟨251, 33, 251, 43⟩ [(.var 7 ⟨251, 44, 251, 55⟩)] ⟨251, 33, 251, 56⟩) ⟨251, 29, 251, 56⟩), (.not (.cmp2 .LtE .Lt (.cint 0 ⟨251, 64, 251, 65⟩) (.var 7 ⟨251, 69, 251, 80⟩) (.attr 362 (.var 0 ⟨251, 83, 251, 93⟩) "width" ⟨251, 83, 251, 99⟩) ⟨251, 64, 251, 99⟩) ⟨251, 60, 251, 99⟩)] ⟨251, 29, 251, 99⟩)] ⟨251, 9, 251, 100⟩) [.assign 9 ⟨252, 8, 252, 17⟩ (.cstr "bad column" ⟨252, 20, 252, 32⟩) ⟨252, 8, 252, 32⟩] [.ite (.bop .And [(.cmp .Eq (.var 4 ⟨253, 9, 253, 18⟩) (.cint 4 ⟨253, 22, 253, 23⟩) ⟨253, 9, 253, 23⟩), (.not (.call 21 ⟨253, 33, 253, 43⟩ [(.var 8 ⟨253, 44, 253, 59⟩)] ⟨253, 33, 253, 60⟩) ⟨253, 29, 253, 60⟩)] ⟨253, 9, 253, 61⟩) [.assign 9 ⟨254, 8, 254, 17⟩ (.cstr "bad row" ⟨254, 20, 254, 29⟩) ⟨254, 8, 254, 29⟩] [] ⟨253, 4, 254, 29⟩] ⟨251, 4, 254, 29⟩] ⟨249, 4, 254, 29⟩,
    .assign 10 ⟨255, 4, 255, 18⟩ (.call 27 ⟨255, 21, 255, 30⟩ [(.var 0 ⟨255, 31, 255, 41⟩), (.var 4 ⟨255, 43, 255, 52⟩), (.var 6 ⟨255, 54, 255, 65⟩), (.var 7 ⟨255, 67, 255, 78⟩), (.var 8 ⟨255, 80, 255, 95⟩)] ⟨255, 21, 255, 96⟩) ⟨255, 4, 255, 96⟩,
    .ite (.cmp .NotEq (.sub (.var 10 ⟨256, 7, 256, 21⟩) (.cint 0 ⟨256, 22, 256, 23⟩) ⟨256, 7, 256, 24⟩) (.var 9 ⟨256, 28, 256, 37⟩) ⟨256, 7, 256, 37⟩) [.ret (.cbool false ⟨257, 15, 257, 20⟩) ⟨257, 8, 257, 20⟩] [] ⟨256, 4, 257, 20⟩,
    .ite (.cmp .Eq (.var 9 ⟨258, 7, 258, 16⟩) (.cstr "no row" ⟨258, 20, 258, 28⟩) ⟨258, 7, 258, 28⟩) [.ret (.call 28 ⟨259, 15, 259, 23⟩ [(.var 0 ⟨259, 24, 259, 34⟩), (.var 6 ⟨259, 36, 259, 47⟩)] ⟨259, 15, 259, 48⟩) ⟨259, 8, 259, 48⟩] [] ⟨258, 4, 259, 48⟩,
    .ite (.bop .And [(.cmp .Eq (.var 9 ⟨260, 7, 260, 16⟩) (.cstr "given" ⟨260, 20, 260, 27⟩) ⟨260, 7, 260, 27⟩), (.cmp .Eq (.var 4 ⟨260, 32, 260, 41⟩) (.cint 5 ⟨260, 45, 260, 46⟩) ⟨260, 32, 260, 46⟩)] ⟨260, 7, 260, 46⟩) [.ret (.call 29 ⟨261, 15, 261, 24⟩ [(.sub (.var 10 ⟨261, 25, 261, 39⟩) (.cint 1 ⟨261, 40, 261, 41⟩) ⟨261, 25, 261, 42⟩), (.subd (.var 1 ⟨261, 44, 261, 54⟩) (.var 6 ⟨261, 55, 261, 66⟩) ⟨261, 44, 261, 67⟩)] ⟨261, 15, 261, 68⟩) ⟨261, 8, 261, 68⟩] [] ⟨260, 4, 261, 68⟩,
    .ite (.bop .And [(.cmp .Eq (.var 9 ⟨262, 7, 262, 16⟩) (.cstr "given" ⟨262, 20, 262, 27⟩) ⟨262, 7, 262, 27⟩), (.cmp .Eq (.var 4 ⟨262, 32, 262, 41⟩) (.cint 3 ⟨262, 45, 262, 46⟩) ⟨262, 32, 262, 46⟩)] ⟨262, 7, 262, 46⟩) [.expr (.lm .dpop (.var 1 ⟨263, 8, 263, 18⟩) ⟨263, 8, 263, 22⟩ [(.var 6 ⟨263, 23, 263, 34⟩)] ⟨263, 8, 263, 35⟩) ⟨263, 8, 263, 35⟩] [] ⟨262, 4, 263, 35⟩,
    .ite (.bop .And [(.cmp .Eq (.var 9 ⟨264, 7, 264, 16⟩) (.cstr "given" ⟨264, 20, 264, 27⟩) ⟨264, 7, 264, 27⟩), (.cmp .Eq (.var 4 ⟨264, 32, 264, 41⟩) (.cint 4 ⟨264, 45, 264, 46⟩) ⟨264, 32, 264, 46⟩)] ⟨264, 7, 264, 46⟩) [.assign 11 ⟨265, 8, 265, 21⟩ (.bi .list true 7 ⟨265, 24, 265, 28⟩ [(.subd (.var 1 ⟨265, 29, 265, 39⟩) (.var 6 ⟨265, 40, 265, 51⟩) ⟨265, 29, 265, 52⟩)] ⟨265, 24, 265, 53⟩) ⟨265, 8, 265, 53⟩,
    .ssub (.var 11 ⟨266, 8, 266, 21⟩) (.var 7 ⟨266, 22, 266, 33⟩) ⟨266, 8, 266, 34⟩ (.var 8 ⟨266, 37, 266, 52⟩) ⟨266, 8, 266, 52⟩,
    .ssub (.var 1 ⟨267, 8, 267, 18⟩) (.var 6 ⟨267, 19, 267, 30⟩) ⟨267, 8, 267, 31⟩ (.var 11 ⟨267, 34, 267, 47⟩) ⟨267, 8, 267, 47⟩] [] ⟨264, 4, 267, 47⟩,
    .ret (.cmp .Is (.sub (.var 10 ⟨268, 11, 268, 25⟩) (.cint 1 ⟨268, 26, 268, 27⟩) ⟨268, 11, 268, 28⟩) (.cnone ⟨268, 32, 268, 36⟩) ⟨268, 11, 268, 36⟩) ⟨268, 4, 268, 36⟩]

noncomputable def nm_law : Nat → Str
  | 0 => PySem.Str.ofString "_law_script"
  | 1 => PySem.Str.ofString "_law_table"
  | 2 => PySem.Str.ofString "_law_there"
  | 3 => PySem.Str.ofString "_law_made"
  | 4 => PySem.Str.ofString "_law_deed_here"
  | 5 => PySem.Str.ofString "_law_row_here"
  | 6 => PySem.Str.ofString "_law_handed"
  | 7 => PySem.Str.ofString "_law_found"
  | 8 => PySem.Str.ofString "_law_first"
  | 9 => PySem.Str.ofString "_law_numbers"
  | 10 => PySem.Str.ofString "_law_number"
  | _ => ""

noncomputable def p_law : List PS := [.assign 1 ⟨270, 4, 270, 14⟩ (.new 362 30 31 ⟨270, 17, 270, 22⟩ [(.bin .Add (.cint 1 ⟨270, 23, 270, 24⟩) (.bin .Mod (.call 32 ⟨270, 27, 270, 34⟩ [(.var 0 ⟨270, 35, 270, 46⟩), (.cint 0 ⟨270, 48, 270, 49⟩)] ⟨270, 27, 270, 50⟩) (.cint 6 ⟨270, 53, 270, 54⟩) ⟨270, 27, 270, 54⟩) ⟨270, 23, 270, 54⟩)] ⟨270, 17, 270, 55⟩) ⟨270, 4, 270, 55⟩,
    .assign 2 ⟨271, 4, 271, 14⟩ (.dct ⟨271, 17, 271, 19⟩) ⟨271, 4, 271, 19⟩,
    .assign 3 ⟨272, 4, 272, 13⟩ (.cint 0 ⟨272, 16, 272, 17⟩) ⟨272, 4, 272, 17⟩,
    .loop 4 ⟨273, 8, 273, 22⟩ (.of (.slc false (.var 0 ⟨273, 26, 273, 37⟩) (some (.cint 1 ⟨273, 38, 273, 39⟩)) Option.none ⟨273, 38, 273, 40⟩ ⟨273, 26, 273, 41⟩)) [.ite (.bop .And [(.cmp .Lt (.bin .Mod (.var 4 ⟨274, 11, 274, 25⟩) (.cint 6 ⟨274, 28, 274, 29⟩) ⟨274, 11, 274, 29⟩) (.cint 3 ⟨274, 32, 274, 33⟩) ⟨274, 11, 274, 33⟩), (.cmp .Lt (.bi .lenD false 9 ⟨274, 38, 274, 41⟩ [(.var 2 ⟨274, 42, 274, 52⟩)] ⟨274, 38, 274, 53⟩) (.cint 198 ⟨274, 56, 274, 59⟩) ⟨274, 38, 274, 59⟩)] ⟨274, 11, 274, 59⟩) [.assign 5 ⟨275, 12, 275, 25⟩ (.call 33 ⟨275, 28, 275, 36⟩ [(.bin .FloorDiv (.var 4 ⟨275, 37, 275, 51⟩) (.cint 6 ⟨275, 55, 275, 56⟩) ⟨275, 37, 275, 56⟩), (.bin .Add (.cint 1 ⟨275, 58, 275, 59⟩) (.bin .Mod (.call 32 ⟨275, 62, 275, 69⟩ [(.var 0 ⟨275, 70, 275, 81⟩), (.cint 0 ⟨275, 83, 275, 84⟩)] ⟨275, 62, 275, 85⟩) (.cint 6 ⟨275, 88, 275, 89⟩) ⟨275, 62, 275, 89⟩) ⟨275, 58, 275, 89⟩)] ⟨275, 28, 275, 90⟩) ⟨275, 12, 275, 90⟩,
    .assign 6 ⟨276, 12, 276, 23⟩ (.bi .list true 7 ⟨276, 26, 276, 30⟩ [(.var 5 ⟨276, 31, 276, 44⟩)] ⟨276, 26, 276, 45⟩) ⟨276, 12, 276, 45⟩,
    .assign 7 ⟨277, 12, 277, 22⟩ (.meth 362 34 (.var 1 ⟨277, 25, 277, 35⟩) "put" ⟨277, 25, 277, 39⟩ [(.bi .tupleA false 8 ⟨277, 40, 277, 45⟩ [(.var 5 ⟨277, 46, 277, 59⟩)] ⟨277, 40, 277, 60⟩)] ⟨277, 25, 277, 61⟩) ⟨277, 12, 277, 61⟩,
    .ite (.cmp .Eq (.bin .Mod (.var 4 ⟨278, 15, 278, 29⟩) (.cint 2 ⟨278, 32, 278, 33⟩) ⟨278, 15, 278, 33⟩) (.cint 0 ⟨278, 37, 278, 38⟩) ⟨278, 15, 278, 38⟩) [.ssub (.var 2 ⟨279, 16, 279, 26⟩) (.var 3 ⟨279, 27, 279, 36⟩) ⟨279, 16, 279, 37⟩ (.var 5 ⟨279, 40, 279, 53⟩) ⟨279, 16, 279, 53⟩,
    .ite (.bop .Or [(.not (.call 21 ⟨280, 23, 280, 33⟩ [(.var 7 ⟨280, 34, 280, 44⟩)] ⟨280, 23, 280, 45⟩) ⟨280, 19, 280, 45⟩), (.cmp .NotEq (.var 7 ⟨280, 49, 280, 59⟩) (.var 3 ⟨280, 63, 280, 72⟩) ⟨280, 49, 280, 72⟩)] ⟨280, 19, 280, 72⟩) [.ret (.cbool false ⟨281, 27, 281, 32⟩) ⟨281, 20, 281, 32⟩] [] ⟨280, 16, 281, 32⟩,
    .assign 3 ⟨282, 16, 282, 25⟩ (.bin .Add (.var 3 ⟨282, 28, 282, 37⟩) (.cint 1 ⟨282, 40, 282, 41⟩) ⟨282, 28, 282, 41⟩) ⟨282, 16, 282, 41⟩,
    .assign 7 ⟨283, 16, 283, 26⟩ (.meth 362 34 (.var 1 ⟨283, 29, 283, 39⟩) "put" ⟨283, 29, 283, 43⟩ [(.var 6 ⟨283, 44, 283, 55⟩)] ⟨283, 29, 283, 56⟩) ⟨283, 16, 283, 56⟩,
    .ssub (.var 6 ⟨284, 16, 284, 27⟩) (.cint 0 ⟨284, 28, 284, 29⟩) ⟨284, 16, 284, 30⟩ (.bin .Add (.sub (.var 6 ⟨284, 33, 284, 44⟩) (.cint 0 ⟨284, 45, 284, 46⟩) ⟨284, 33, 284, 47⟩) (.cint 1 ⟨284, 50, 284, 51⟩) ⟨284, 33, 284, 51⟩) ⟨284, 16, 284, 51⟩] [] ⟨278, 12, 284, 51⟩,
    .ssub (.var 2 ⟨285, 12, 285, 22⟩) (.var 3 ⟨285, 23, 285, 32⟩) ⟨285, 12, 285, 33⟩ (.var 5 ⟨285, 36, 285, 49⟩) ⟨285, 12, 285, 49⟩,
    .ite (.bop .Or [(.not (.call 21 ⟨286, 19, 286, 29⟩ [(.var 7 ⟨286, 30, 286, 40⟩)] ⟨286, 19, 286, 41⟩) ⟨286, 15, 286, 41⟩), (.cmp .NotEq (.var 7 ⟨286, 45, 286, 55⟩) (.var 3 ⟨286, 59, 286, 68⟩) ⟨286, 45, 286, 68⟩)] ⟨286, 15, 286, 68⟩) [.ret (.cbool false ⟨287, 23, 287, 28⟩) ⟨287, 16, 287, 28⟩] [] ⟨286, 12, 287, 28⟩,
    .assign 3 ⟨288, 12, 288, 21⟩ (.bin .Add (.var 3 ⟨288, 24, 288, 33⟩) (.cint 1 ⟨288, 36, 288, 37⟩) ⟨288, 24, 288, 37⟩) ⟨288, 12, 288, 37⟩] [.ite (.not (.call 35 ⟨289, 17, 289, 26⟩ [(.var 1 ⟨289, 27, 289, 37⟩), (.var 2 ⟨289, 39, 289, 49⟩), (.var 4 ⟨289, 51, 289, 65⟩), (.var 3 ⟨289, 67, 289, 76⟩)] ⟨289, 17, 289, 77⟩) ⟨289, 13, 289, 77⟩) [.ret (.cbool false ⟨290, 19, 290, 24⟩) ⟨290, 12, 290, 24⟩] [] ⟨289, 8, 290, 24⟩] ⟨274, 8, 290, 24⟩] ⟨273, 4, 290, 24⟩,
    .assign 8 ⟨291, 4, 291, 14⟩ (.meth 362 36 (.var 1 ⟨291, 17, 291, 27⟩) "numbers" ⟨291, 17, 291, 35⟩ [] ⟨291, 17, 291, 37⟩) ⟨291, 4, 291, 37⟩,
    .expr (.app (.var 8 ⟨292, 4, 292, 14⟩) ⟨292, 4, 292, 21⟩ (.bin .Sub (.cint 0 ⟨292, 22, 292, 23⟩) (.cint 1 ⟨292, 26, 292, 27⟩) ⟨292, 22, 292, 27⟩) ⟨292, 4, 292, 28⟩) ⟨292, 4, 292, 28⟩,
    .assign 9 ⟨293, 4, 293, 16⟩ (.meth 362 36 (.var 1 ⟨293, 19, 293, 29⟩) "numbers" ⟨293, 19, 293, 37⟩ [] ⟨293, 19, 293, 39⟩) ⟨293, 4, 293, 39⟩,
    .ite (.cmp .NotEq (.bi .len false 9 ⟨294, 7, 294, 10⟩ [(.var 8 ⟨294, 11, 294, 21⟩)] ⟨294, 7, 294, 22⟩) (.bin .Add (.bi .len false 9 ⟨294, 26, 294, 29⟩ [(.var 9 ⟨294, 30, 294, 42⟩)] ⟨294, 26, 294, 43⟩) (.cint 1 ⟨294, 46, 294, 47⟩) ⟨294, 26, 294, 47⟩) ⟨294, 7, 294, 47⟩) [.ret (.cbool false ⟨295, 15, 295, 20⟩) ⟨295, 8, 295, 20⟩] [] ⟨294, 4, 295, 20⟩,
    .ite (.bop .Or [(.not (.isi (.var 9 ⟨296, 22, 296, 34⟩) .list 0 ⟨296, 11, 296, 21⟩ 7 ⟨296, 36, 296, 40⟩ ⟨296, 11, 296, 41⟩) ⟨296, 7, 296, 41⟩), (.cmp .NotEq (.var 9 ⟨296, 45, 296, 57⟩) (.skeys false 18 ⟨296, 61, 296, 67⟩ (.var 2 ⟨296, 68, 296, 78⟩) ⟨296, 68, 296, 83⟩ ⟨296, 68, 296, 85⟩ ⟨296, 61, 296, 86⟩) ⟨296, 45, 296, 86⟩), (.cmp .NotEq (.attr 362 (.var 1 ⟨296, 90, 296, 100⟩) "width" ⟨296, 90, 296, 106⟩) (.bin .Add (.cint 1 ⟨296, 110, 296, 111⟩) (.bin .Mod (.call 32 ⟨296, 114, 296, 121⟩ [(.var 0 ⟨296, 122, 296, 133⟩), (.cint 0 ⟨296, 135, 296, 136⟩)] ⟨296, 114, 296, 137⟩) (.cint 6 ⟨296, 140, 296, 141⟩) ⟨296, 114, 296, 141⟩) ⟨296, 110, 296, 141⟩) ⟨296, 90, 296, 141⟩)] ⟨296, 7, 296, 141⟩) [.ret (.cbool false ⟨297, 15, 297, 20⟩) ⟨297, 8, 297, 20⟩] [] ⟨296, 4, 297, 20⟩,
    .loop 10 ⟨298, 8, 298, 19⟩ (.of (.var 9 ⟨298, 23, 298, 35⟩)) [.ite (.bop .Or [(.not (.call 21 ⟨299, 15, 299, 25⟩ [(.var 10 ⟨299, 26, 299, 37⟩)] ⟨299, 15, 299, 38⟩) ⟨299, 11, 299, 38⟩), (.not (.call 29 ⟨299, 46, 299, 55⟩ [(.meth 362 24 (.var 1 ⟨299, 56, 299, 66⟩) "row" ⟨299, 56, 299, 70⟩ [(.var 10 ⟨299, 71, 299, 82⟩)] ⟨299, 56, 299, 83⟩), (.subd (.var 2 ⟨299, 85, 299, 95⟩) (.var 10 ⟨299, 96, 299, 107⟩) ⟨299, 85, 299, 108⟩)] ⟨299, 46, 299, 109⟩) ⟨299, 42, 299, 109⟩)] ⟨299, 11, 299, 109⟩) [.ret (.cbool false ⟨300, 19, 300, 24⟩) ⟨300, 12, 300, 24⟩] [] ⟨299, 8, 300, 24⟩] ⟨298, 4, 300, 24⟩,
    .ret (.cbool true ⟨301, 11, 301, 15⟩) ⟨301, 4, 301, 15⟩]

noncomputable def gn : Nat → Str
  | 0 => PySem.Str.ofString "isinstance"
  | 1 => PySem.Str.ofString "int"
  | 2 => PySem.Str.ofString "bool"
  | 3 => PySem.Str.ofString "is_whole"
  | 4 => PySem.Str.ofString "MOST_WIDTH"
  | 5 => PySem.Str.ofString "BadWidth"
  | 6 => PySem.Str.ofString "NoRow"
  | 7 => PySem.Str.ofString "list"
  | 8 => PySem.Str.ofString "tuple"
  | 9 => PySem.Str.ofString "len"
  | 10 => PySem.Str.ofString "BadRow"
  | 11 => PySem.Str.ofString "MOST_ROWS"
  | 12 => PySem.Str.ofString "Full"
  | 13 => PySem.Str.ofString "Kept.put"
  | 14 => PySem.Str.ofString "Table.need_row"
  | 15 => PySem.Str.ofString "Kept.drop"
  | 16 => PySem.Str.ofString "Table.has_column"
  | 17 => PySem.Str.ofString "BadColumn"
  | 18 => PySem.Str.ofString "sorted"
  | 19 => PySem.Str.ofString "range"
  | 20 => PySem.Str.ofString "_law_value"
  | 21 => PySem.Str.ofString "_law_whole"
  | 22 => PySem.Str.ofString "Table.drop"
  | 23 => PySem.Str.ofString "Table.change"
  | 24 => PySem.Str.ofString "Table.row"
  | 25 => PySem.Str.ofString "BookError"
  | 26 => PySem.Str.ofString "ValueError"
  | 27 => PySem.Str.ofString "_law_said"
  | 28 => PySem.Str.ofString "_law_any"
  | 29 => PySem.Str.ofString "_law_same"
  | 30 => PySem.Str.ofString "Table.__init__"
  | 31 => PySem.Str.ofString "Table"
  | 32 => PySem.Str.ofString "_law_at"
  | 33 => PySem.Str.ofString "_law_row"
  | 34 => PySem.Str.ofString "Table.put"
  | 35 => PySem.Str.ofString "_law_deed"
  | 36 => PySem.Str.ofString "Table.numbers"
  | _ => ""

end Mine.L07
end
section
open PySem PyProof.Rows
set_option Elab.async false
set_option maxRecDepth 20000
namespace Mine.L07

noncomputable abbrev CT : Nat := 362
noncomputable abbrev BW : Nat := 44
noncomputable abbrev BR : Nat := 56
noncomputable abbrev FU : Nat := 68
noncomputable abbrev NR : Nat := 80
noncomputable abbrev BC : Nat := 92

theorem set_ne {σ : Store} {a x : Addr} {m : MObj} (h : x ≠ a) : (σ.set a m) x = σ x := by unfold Store.set; rw [if_neg h]
theorem asL_ent {σ : Store} {e : Addr} {xs : List D} (h : σ e = some (.mlist xs)) : asL σ (.obj e) = some xs := by simp [asL, h]

noncomputable def whole : D → Bool
  | .int _ => true
  | _ => false
noncomputable def isObj : D → Bool
  | .obj _ => true
  | _ => false

noncomputable def S_whole : Spec := fun ds σ Φ _ => ∃ d, ds = [d] ∧ isObj d = false ∧ Φ (.bool (whole d)) σ
theorem whole_vc (S : Nat → Spec) (ds : List D) (σ : Store) (Φ : D → Store → Prop) (X : Addr → Store → Prop) (h : S_whole ds σ Φ X) : ds.length = [0].length ∧ vcSs S ⟨retX X, none⟩ p_is_whole (initE [0] ds 1) σ (retS Φ) := by
  obtain ⟨d, rfl, hd, h⟩ := h
  refine ⟨rfl, ?_⟩
  cases d with
  | obj a => cases hd
  | _ => repeat' (first | exact retS_ret h | refine and_tt ?_ | refine and_ff ?_ | refine and_ff' ?_ | refine and_tf' ?_ | refine ⟨_, rfl, ?_⟩ | conv => whnf)
theorem lwhole_vc (S : Nat → Spec) (ds : List D) (σ : Store) (Φ : D → Store → Prop) (X : Addr → Store → Prop) (h : S_whole ds σ Φ X) : ds.length = [0].length ∧ vcSs S ⟨retX X, none⟩ p_law_whole (initE [0] ds 1) σ (retS Φ) := whole_vc S ds σ Φ X h

noncomputable def S_at : Spec := fun ds σ Φ _ => ∃ sc k, ds = [dI sc, .int k] ∧ sc.length ≤ 1000 ∧ 0 ≤ k ∧ Φ (.int (sc.getD k.toNat 0)) σ
theorem at_vc (S : Nat → Spec) (ds : List D) (σ : Store) (Φ : D → Store → Prop) (X : Addr → Store → Prop) (h : S_at ds σ Φ X) : ds.length = [0, 1].length ∧ vcSs S ⟨retX X, none⟩ p_law_at (initE [0, 1] ds 2) σ (retS Φ) := by
  obtain ⟨sc, k, rfl, h1, h2, h⟩ := h
  refine ⟨rfl, ?_⟩
  conv => whnf
  refine ⟨_, rfl, small_ok (by simp; omega), ?_⟩
  conv => whnf
  simp only [List.length_map]
  refine and_decide (fun hlt => ?_) (fun hge => ?_)
  · conv => whnf
    have hk : k.toNat < sc.length := by omega
    refine ⟨_, rfl, small_ok (by simp; omega), .inl ⟨h2, _, get_map_int hk, ?_⟩⟩
    refine retS_ret ?_
    rw [List.getD_eq_getElem?_getD, List.getElem?_eq_getElem hk] at h
    exact h
  · refine retS_ret ?_
    rw [List.getD_eq_getElem?_getD, List.getElem?_eq_none (by omega)] at h
    exact h

noncomputable def S_value : Spec := fun ds σ Φ _ => ∃ c, ds = [.int c] ∧ ∀ v, Φ (.int v) σ
theorem value_vc (S : Nat → Spec) (ds : List D) (σ : Store) (Φ : D → Store → Prop) (X : Addr → Store → Prop) (h : S_value ds σ Φ X) : ds.length = [0].length ∧ vcSs S ⟨retX X, none⟩ p_law_value (initE [0] ds 1) σ (retS Φ) := by
  obtain ⟨c, rfl, h⟩ := h
  refine ⟨rfl, ?_⟩
  repeat' first
    | exact retS_ret (h _)
    | refine and_decide (fun _ => ?_) (fun _ => ?_)
    | refine ⟨by decide, ?_⟩
    | conv => whnf

theorem compS_dem {α : Type} {step : D → Store → (Option D → Store → Prop) → Prop} {keep : Store → Prop} {σ : Store} (g : α → D) (R : D → Prop) (hk : keep σ) : ∀ (l : List α) (acc : List D) {Ψ : List D → Store → Prop},
    (∀ x ∈ l, ∀ K : Option D → Store → Prop, (∀ r, R r → K (some r) σ) → step (g x) σ K) → (∀ out : List D, out.length = l.length → (∀ r ∈ out, R r) → Ψ (acc ++ out) σ) → compS step keep (l.map g) σ acc Ψ
  | [], acc, Ψ, _, h => by simpa [compS] using h [] rfl (by simp)
  | d :: ds, acc, Ψ, hs, h => by
    simp only [List.map_cons, compS]
    refine hs d List.mem_cons_self _ fun r hr => ⟨hk, compS_dem g R hk ds _ (fun e he => hs e (List.mem_cons_of_mem _ he)) fun out hl hR => ?_⟩
    have := h (r :: out) (by simp [hl]) (fun x hx => by
      rcases List.mem_cons.mp hx with rfl | hx
      · exact hr
      · exact hR x hx)
    simpa using this
theorem dem_list {α : Type} (f : α → D) (P : α → Prop) : ∀ out : List D, (∀ r ∈ out, ∃ x, r = f x ∧ P x) → ∃ xs : List α, out = xs.map f ∧ ∀ x ∈ xs, P x
  | [], _ => ⟨[], rfl, by simp⟩
  | r :: out, h => by
    obtain ⟨x, hx, hp⟩ := h r List.mem_cons_self
    obtain ⟨xs, h1, h2⟩ := dem_list f P out fun y hy => h y (List.mem_cons_of_mem _ hy)
    refine ⟨x :: xs, by rw [hx, h1]; rfl, fun y hy => ?_⟩
    rcases List.mem_cons.mp hy with rfl | hy
    · exact hp
    · exact h2 y hy

/-- a number of not too many bits -/
noncomputable def Bt (B : Nat) (c : Int) : Prop := c.natAbs < 2 ^ B
theorem bits_pow {c m : Int} {B : Nat} (h : Bt B c) (hB : B ≤ 2000000) (hm : m.natAbs < 65536) : (0 : Int) ≤ 3 ∧ (Builtin.Int.intBits (c * 48271 + m) : Int) * 3 ≤ 2 ^ 27 := by
  refine ⟨by decide, ?_⟩
  unfold Bt at h
  have h1 : (c * 48271 + m).natAbs < 2 ^ (B + 17) := by
    have e : 2 ^ (B + 17) = 2 ^ B * 131072 := by rw [Nat.pow_add]
    rw [e]
    have h0 : 0 < 2 ^ B := Nat.pow_pos (by decide)
    generalize 2 ^ B = X at h h0
    omega
  have := PyProof.Rows.intBits_le h1
  omega
theorem bits_add {c m : Int} {B : Nat} (h : Bt B c) (hm : m.natAbs < 256) : Bt (B + 9) (c + m) := by
  unfold Bt at h ⊢
  have e : 2 ^ (B + 9) = 2 ^ B * 512 := by rw [Nat.pow_add]
  rw [e]
  have h0 : 0 < 2 ^ B := Nat.pow_pos (by decide)
  generalize 2 ^ B = X at h h0
  omega

noncomputable def S_row : Spec := fun ds σ Φ _ => ∃ (c : Int) (w B : Nat), ds = [.int c, .int w] ∧ w ≤ 6 ∧ Bt B c ∧ B ≤ 2000000 ∧ ∀ row : List Int, row.length = w → Φ (dI row) σ
theorem row_vc (S : Nat → Spec) (h16 : S 20 = S_value) (ds : List D) (σ : Store) (Φ : D → Store → Prop) (X : Addr → Store → Prop) (h : S_row ds σ Φ X) : ds.length = [0, 1].length ∧ vcSs S ⟨retX X, none⟩ p_law_row (initE [0, 1] ds 3) σ (retS Φ) := by
  obtain ⟨c, w, B, rfl, hw, hb, hB, h⟩ := h
  refine ⟨rfl, ?_⟩
  conv => whnf
  refine ⟨by unfold small; omega, by unfold small; omega, ?_⟩
  refine ⟨by rw [rangeD_length]; exact small_ok (by omega), ?_⟩
  have e0 : rangeD (w : Int) = (List.range w).map fun (i : Nat) => D.int i := by unfold rangeD; rw [Int.toNat_natCast]
  rw [e0]
  refine compS_dem (fun (i : Nat) => D.int i) (fun r => ∃ v, r = .int v ∧ True) trivial _ _ ?_ ?_
  · intro i hi K hK
    have hi' := List.mem_range.mp hi
    conv => whnf
    refine ⟨fun q => ?_, fun q => ?_⟩ <;> cases q
    conv => whnf
    refine ⟨.inr (by decide), ?_⟩
    conv => whnf
    refine ⟨.inl (by decide), ?_⟩
    conv => whnf
    refine ⟨bits_pow hb hB (by omega), ?_⟩
    conv => whnf
    refine ⟨by decide, ?_⟩
    conv => whnf
    rw [h16]
    exact ⟨_, rfl, fun v => hK _ ⟨v, rfl, trivial⟩⟩
  · intro out hl hR
    obtain ⟨xs, rfl, _⟩ := dem_list D.int (fun _ => True) out hR
    rw [List.nil_append]
    refine retS_ret (h xs ?_)
    simpa using hl

theorem bt_of_bits {c : Int} {B : Nat} (h : Builtin.Int.intBits c ≤ B) : Bt B c := by
  unfold Bt
  unfold Builtin.Int.intBits at h
  by_cases hc : c = 0
  · subst hc; exact Nat.pow_pos (by decide)
  · rw [if_neg (by simpa using hc)] at h
    exact Nat.lt_of_lt_of_le Nat.lt_log2_self (Nat.pow_le_pow_right (by decide) h)
theorem bt_getD {sc : List Int} {B : Nat} (h : ∀ c ∈ sc, Bt B c) (i : Nat) : Bt B (sc.getD i 0) := by
  rw [List.getD_eq_getElem?_getD]
  cases e : sc[i]? with
  | none => unfold Bt; simp; exact Nat.pow_pos (by decide)
  | some c => exact h c (List.mem_of_getElem? e)


theorem bt_div {c : Int} {B : Nat} (h : Bt B c) : Bt B (c / 6) := by
  unfold Bt at h ⊢; omega
end Mine.L07
end
section
open PySem PyProof.Rows
set_option Elab.async false
set_option maxRecDepth 20000
namespace Mine.L07

/-! tables: numbers and rows -/
noncomputable abbrev Tab := List (Int × List Int)
noncomputable def getA (k : Int) : Tab → Option (List Int)
  | [] => none
  | (j, x) :: r => if j = k then some x else getA k r
noncomputable def putA (k : Int) (d : List Int) : Tab → Tab
  | [] => [(k, d)]
  | (j, x) :: r => if j = k then (j, d) :: r else (j, x) :: putA k d r
noncomputable def delA (k : Int) (T : Tab) : Tab := T.filter fun x => decide (x.1 ≠ k)

noncomputable abbrev tI (xs : List Int) : D := .tuple (xs.map D.int)
noncomputable def tupI (x : Int × List Int) : Int × D := (x.1, tI x.2)
theorem getK_map (k : Int) : ∀ T : Tab, getK k (T.map tupI) = (getA k T).map tI
  | [] => rfl
  | (j, x) :: r => by
    show (if j = k then some (tI x) else getK k (r.map tupI)) = _
    rw [getK_map k r]
    simp only [getA]
    split <;> rfl
theorem putK_map (k : Int) (d : List Int) : ∀ T : Tab, putK k (tI d) (T.map tupI) = (putA k d T).map tupI
  | [] => rfl
  | (j, x) :: r => by
    show (if j = k then (j, tI d) :: r.map tupI else (j, tI x) :: putK k (tI d) (r.map tupI)) = _
    rw [putK_map k d r]
    simp only [putA]
    split <;> rfl
theorem delK_map (k : Int) (T : Tab) : delK k (T.map tupI) = (delA k T).map tupI := by
  unfold delK delA
  rw [List.filter_map]
  rfl
theorem putA_len (k : Int) (d : List Int) : ∀ T : Tab, (putA k d T).length ≤ T.length + 1
  | [] => by simp [putA]
  | (j, x) :: r => by
    simp only [putA]
    split
    · simp
    · have := putA_len k d r; simp; omega
theorem putA_len' (k : Int) (d : List Int) : ∀ (T : Tab) {x : List Int}, getA k T = some x → (putA k d T).length = T.length
  | [], x, h => by simp [getA] at h
  | (j, y) :: r, x, h => by
    simp only [getA] at h
    simp only [putA]
    split
    · rfl
    · rename_i q; rw [if_neg q] at h; simp [putA_len' k d r h]
theorem putA_all {P : List Int → Prop} (k : Int) (d : List Int) (hd : P d) : ∀ T : Tab, (∀ x ∈ T, P x.2) → ∀ x ∈ putA k d T, P x.2
  | [], _, x, hx => by simp only [putA, List.mem_singleton] at hx; rw [hx]; exact hd
  | (j, y) :: r, h, x, hx => by
    simp only [putA] at hx
    split at hx
    · rcases List.mem_cons.mp hx with rfl | hx
      · exact hd
      · exact h x (List.mem_cons_of_mem _ hx)
    · rcases List.mem_cons.mp hx with rfl | hx
      · exact h _ List.mem_cons_self
      · exact putA_all k d hd r (fun z hz => h z (List.mem_cons_of_mem _ hz)) x hx
theorem getA_mem (k : Int) : ∀ (T : Tab) {x : List Int}, getA k T = some x → (k, x) ∈ T
  | [], x, h => by simp [getA] at h
  | (j, y) :: r, x, h => by
    simp only [getA] at h
    split at h
    · rename_i q; subst q; cases h; exact List.mem_cons_self
    · exact List.mem_cons_of_mem _ (getA_mem k r h)
theorem getA_key (k : Int) : ∀ (T : Tab), k ∈ T.map (·.1) → ∃ x, getA k T = some x
  | [], h => by cases h
  | (j, y) :: r, h => by
    simp only [getA]
    split
    · exact ⟨y, rfl⟩
    · rename_i q
      rw [List.map_cons] at h
      rcases List.mem_cons.mp h with h | h
      · exact absurd h.symm q
      · exact getA_key k r h

noncomputable abbrev fsT (w : Nat) (d : Addr) (f : Int) : List (Str × D) := [("width", .int w), ("there", .obj d), ("kept", .list []), ("following", .int f)]
structure TabAt (σ : Store) (t : Addr) (w : Nat) (T : Tab) (f : Int) (dx d : Addr) : Prop where
  obj : σ t = some (.inst CT dx (fsT w d f))
  dic : σ d = some (.mdict (T.map tupI))
theorem TabAt.ne {σ t w T f dx d} (h : TabAt σ t w T f dx d) : t ≠ d := fun q => by have := h.obj; rw [q, h.dic] at this; cases this
theorem width_f (w : Nat) (d : Addr) (f : Int) : getF "width" (fsT w d f) = some (.int w) := by simp [getF]
theorem n1 : ¬ (("width" : Str) = "there") := by decide
theorem n2 : ¬ (("width" : Str) = "kept") := by decide
theorem n3 : ¬ (("there" : Str) = "kept") := by decide
theorem n4 : ¬ (("width" : Str) = "following") := by decide
theorem n5 : ¬ (("there" : Str) = "following") := by decide
theorem n6 : ¬ (("kept" : Str) = "following") := by decide
theorem there_f (w : Nat) (d : Addr) (f : Int) : getF "there" (fsT w d f) = some (.obj d) := by simp [getF, n1]
theorem kept_f (w : Nat) (d : Addr) (f : Int) : getF "kept" (fsT w d f) = some (.list []) := by simp [getF, n2, n3]
theorem foll_f (w : Nat) (d : Addr) (f : Int) : getF "following" (fsT w d f) = some (.int f) := by simp [getF, n4, n5, n6]
theorem foll_p (w : Nat) (d : Addr) (f g : Int) : putF "following" (.int g) (fsT w d f) = fsT w d g := by simp [putF, n4, n5, n6]
theorem no_f (w : Nat) (d : Addr) (f : Int) {n : Str} (h1 : ¬ ("width" : Str) = n) (h2 : ¬ ("there" : Str) = n) (h3 : ¬ ("kept" : Str) = n) (h4 : ¬ ("following" : Str) = n) : getF n (fsT w d f) = none := by simp [getF, h1, h2, h3, h4]

theorem kF {b : Bool} {X Y : Prop} (hb : b = false) (h : Y) : (b = true → X) ∧ (b = false → Y) := ⟨fun q => (by rw [hb] at q; cases q), fun _ => h⟩
theorem kT {b : Bool} {X Y : Prop} (hb : b = true) (h : X) : (b = true → X) ∧ (b = false → Y) := ⟨fun _ => h, fun q => by rw [hb] at q; cases q⟩
theorem kF' {b : Bool} {X Y : Prop} (hb : b = false) (h : X) : (b = false → X) ∧ (b = true → Y) := ⟨fun _ => h, fun q => by rw [hb] at q; cases q⟩
theorem kT' {b : Bool} {X Y : Prop} (hb : b = true) (h : Y) : (b = false → X) ∧ (b = true → Y) := ⟨fun q => (by rw [hb] at q; cases q), fun _ => h⟩

noncomputable def S_init : Spec := fun ds σ Φ _ => ∃ a dx w, ds = [.obj a, .int (w : Nat)] ∧ 1 ≤ w ∧ w ≤ 6 ∧ σ a = some (.inst CT dx []) ∧
  ∀ d σ', TabAt σ' a w [] 0 dx d → (∀ x, x ≠ a → x ≠ d → σ' x = σ x) → Φ .none σ'
theorem init_vc (S : Nat → Spec) (h3 : S 3 = S_whole) (ds : List D) (σ : Store) (Φ : D → Store → Prop) (X : Addr → Store → Prop) (h : S_init ds σ Φ X) : ds.length = [0, 1].length ∧ vcSs S ⟨retX X, none⟩ p_Table___init__ (initE [0, 1] ds 2) σ (retS Φ) := by
  obtain ⟨a, dx, w, rfl, hw1, hw2, ha, h⟩ := h
  refine ⟨rfl, ?_⟩
  conv => whnf
  rw [h3]
  refine ⟨_, rfl, rfl, ?_⟩
  conv => whnf
  refine kF rfl ?_
  conv => whnf
  refine kT' (decide_eq_true (by omega)) ?_
  conv => whnf
  refine kF (by rw [decide_eq_true (by omega)]; rfl) ?_
  conv => whnf
  refine kF rfl ?_
  conv => whnf
  refine ⟨a, dx, [], rfl, ha, by decide, ?_⟩
  conv => whnf
  intro d hf
  have hne : d ≠ a := fun q => by have := hf.1; rw [q, set_at] at this; cases this
  conv => whnf
  refine ⟨a, dx, [("width", .int w)], rfl, by rw [set_ne hne.symm, set_at]; rfl, by simp, ?_⟩
  conv => whnf
  refine ⟨rfl, ?_⟩
  conv => whnf
  refine ⟨a, dx, [("width", .int w), ("there", .obj d)], rfl, by rw [set_at]; simp [putF, n1], by simp, ?_⟩
  conv => whnf
  refine ⟨a, dx, [("width", .int w), ("there", .obj d), ("kept", .list [])], rfl, by rw [set_at]; simp [putF, n2, n3], by simp, ?_⟩
  refine ⟨_, Sub.refl _, h d _ ⟨?_, ?_⟩ ?_⟩
  · rw [set_at]; simp [putF, n4, n5, n6]
  · rw [set_ne hne, set_ne hne, set_ne hne, set_at]; rfl
  · intro x h1 h2
    rw [set_ne h1, set_ne h1, set_ne h1, set_ne h2, set_ne h1]

/-- the row of a number, if the number is one -/
noncomputable def hasN : D → Tab → Option (List Int)
  | .int n, T => getA n T
  | _, _ => none
theorem getK_some {T : Tab} {k : Int} : (getK k (T.map tupI)).isSome = (getA k T).isSome := by rw [getK_map]; cases getA k T <;> rfl

noncomputable def S_need : Spec := fun ds σ Φ X => ∃ t nD w T f dx d, ds = [.obj t, nD] ∧ isObj nD = false ∧ TabAt σ t w T f dx d ∧ (∀ row, hasN nD T = some row → Φ .none σ) ∧ (hasN nD T = none → X NR σ)
theorem need_vc (S : Nat → Spec) (h3 : S 3 = S_whole) (ds : List D) (σ : Store) (Φ : D → Store → Prop) (X : Addr → Store → Prop) (h : S_need ds σ Φ X) : ds.length = [0, 1].length ∧ vcSs S ⟨retX X, none⟩ p_Table_need_row (initE [0, 1] ds 2) σ (retS Φ) := by
  obtain ⟨t, nD, w, T, f, dx, d, rfl, hn, ht, h1, h2⟩ := h
  refine ⟨rfl, ?_⟩
  conv => whnf
  rw [h3]
  refine ⟨_, rfl, hn, ?_⟩
  conv => whnf
  cases nD with
  | int n =>
    refine kF rfl ?_
    conv => whnf
    refine ⟨t, dx, _, _, rfl, ht.obj, there_f _ _ _, ?_⟩
    conv => whnf
    refine .inr ⟨d, _, rfl, ht.dic, ?_⟩
    conv => whnf
    rw [getK_some]
    cases e : getA n T with
    | none =>
      refine kT rfl ?_
      conv => whnf
      refine kT rfl ?_
      exact ⟨σ, Sub.refl _, h2 e⟩
    | some row =>
      refine kF rfl ?_
      conv => whnf
      refine kF rfl ?_
      exact ⟨σ, Sub.refl _, h1 row e⟩
  | obj a => cases hn
  | _ =>
    refine kT rfl ?_
    conv => whnf
    refine kT rfl ?_
    exact ⟨σ, Sub.refl _, h2 rfl⟩

/-- the column, if it is one -/
noncomputable def colN (w : Nat) : D → Option Nat
  | .int c => if 0 ≤ c ∧ c < w then some c.toNat else none
  | _ => none
noncomputable def S_hascol : Spec := fun ds σ Φ _ => ∃ t cD w T f dx d, ds = [.obj t, cD] ∧ isObj cD = false ∧ TabAt σ t w T f dx d ∧ Φ (.bool (colN w cD).isSome) σ
theorem hascol_vc (S : Nat → Spec) (h3 : S 3 = S_whole) (ds : List D) (σ : Store) (Φ : D → Store → Prop) (X : Addr → Store → Prop) (h : S_hascol ds σ Φ X) : ds.length = [0, 1].length ∧ vcSs S ⟨retX X, none⟩ p_Table_has_column (initE [0, 1] ds 2) σ (retS Φ) := by
  obtain ⟨t, cD, w, T, f, dx, d, rfl, hn, ht, h⟩ := h
  refine ⟨rfl, ?_⟩
  conv => whnf
  rw [h3]
  refine ⟨_, rfl, hn, ?_⟩
  conv => whnf
  cases cD with
  | int c =>
    refine kT' rfl ?_
    conv => whnf
    refine ⟨fun q => ?_, fun q => ?_⟩
    · refine retS_ret ?_
      simp only [colN] at h
      rw [if_neg (by have := of_decide_eq_false q; omega)] at h
      exact h
    · conv => whnf
      refine ⟨t, dx, _, _, rfl, ht.obj, width_f _ _ _, ?_⟩
      refine retS_ret ?_
      have q' := of_decide_eq_true q
      simp only [colN] at h
      by_cases hc : c < w
      · rw [if_pos ⟨q', hc⟩] at h
        rw [decide_eq_true hc]; exact h
      · rw [if_neg (by omega)] at h
        rw [decide_eq_false hc]; exact h
  | obj a => cases hn
  | _ =>
    refine kF' rfl ?_
    exact retS_ret h
end Mine.L07
end
section
open PySem PyProof.Rows
set_option Elab.async false
set_option maxRecDepth 20000
namespace Mine.L07

/-- a row that is handed over: a list or a tuple -/
structure Seq (σ : Store) (rD : D) (row : List Int) : Prop where
  as : asL σ rD = some (row.map D.int)
  lt : ltS rD σ = some true
theorem Seq.mono {σ σ' : Store} {rD : D} {row : List Int} (h : Seq σ rD row) (hk : ∀ a xs, σ a = some (.mlist xs) → σ' a = some (.mlist xs)) : Seq σ' rD row := by
  cases rD with
  | obj a =>
    cases e : σ a with
    | none => have := h.as; simp [asL, e] at this
    | some m =>
      cases m with
      | mlist xs =>
        have h1 := h.as
        have h2 := h.lt
        have e' := hk a xs e
        simp only [asL, ltS, e] at h1 h2
        exact ⟨by simp only [asL, e']; exact h1, by simp only [ltS, e']⟩
      | inst C dx fs => have := h.as; simp [asL, e] at this
      | mdict kvs => have := h.as; simp [asL, e] at this
  | tuple xs => exact ⟨h.as, h.lt⟩
  | list xs => exact ⟨h.as, h.lt⟩
  | _ => cases h.as
theorem Seq.keep {σ : Store} {rD : D} {ds : List D} (h : asL σ rD = some ds) : keepS rD ds σ := by
  cases rD with
  | obj a =>
    show σ a = _
    cases e : σ a with
    | none => simp [asL, e] at h
    | some m =>
      cases m with
      | mlist xs => simp only [asL, e] at h; cases h; rfl
      | _ => simp [asL, e] at h
  | _ => trivial

noncomputable def S_put : Spec := fun ds σ Φ _ => ∃ t rD row w T f dx d, ds = [.obj t, rD] ∧ TabAt σ t w T f dx d ∧ Seq σ rD row ∧ row.length = w ∧ w ≤ 6 ∧ T.length ≤ 199 ∧
  ∀ σ', TabAt σ' t w (putA f row T) (f + 1) dx d → (∀ x, x ≠ t → x ≠ d → σ' x = σ x) → Φ (.int f) σ'
theorem put_vc (S : Nat → Spec) (h3 : S 3 = S_whole) (ds : List D) (σ : Store) (Φ : D → Store → Prop) (X : Addr → Store → Prop) (h : S_put ds σ Φ X) : ds.length = [0, 1].length ∧ vcSs S ⟨retX X, none⟩ p_Table_put (initE [0, 1] ds 5) σ (retS Φ) := by
  obtain ⟨t, rD, row, w, T, f, dx, d, rfl, ht, hr, hw, hw6, hT, h⟩ := h
  refine ⟨rfl, ?_⟩
  conv => whnf
  refine ⟨true, hr.lt, ?_⟩
  conv => whnf
  refine kF rfl ?_
  conv => whnf
  refine ⟨_, hr.as, small_ok (by simp; omega), ?_⟩
  conv => whnf
  refine ⟨t, dx, _, _, rfl, ht.obj, width_f _ _ _, ?_⟩
  conv => whnf
  refine kF (by rw [List.length_map, hw]; simp) ?_
  conv => whnf
  refine kF rfl ?_
  conv => whnf
  refine ⟨_, hr.as, ?_⟩
  refine forS_inv (fun k ρ σ' => σ' = σ ∧ ∃ o, ρ = [some (.obj t), some rD, o, none, none]) ?_ ?_ ?_ ⟨rfl, none, rfl⟩
  · rintro k ρ σ' ⟨rfl, _⟩
    exact Seq.keep hr.as
  · rintro k e ρ σ' K hd ⟨rfl, o, rfl⟩ hK
    rw [List.getElem?_map] at hd
    cases q : row[k]? with
    | none => rw [q] at hd; cases hd
    | some i =>
      rw [q] at hd
      cases hd
      conv => whnf
      rw [h3]
      refine ⟨_, rfl, rfl, ?_⟩
      conv => whnf
      refine kF rfl ?_
      exact hK _ _ ⟨rfl, _, rfl⟩
  · rintro ρ σ' ⟨rfl, o, rfl⟩
    conv => whnf
    refine ⟨t, dx, _, _, rfl, ht.obj, there_f _ _ _, ?_⟩
    conv => whnf
    refine ⟨d, _, rfl, ht.dic, small_ok (by simp; omega), ?_⟩
    conv => whnf
    refine kF (decide_eq_false (by rw [List.length_map]; omega)) ?_
    conv => whnf
    refine ⟨t, dx, _, _, rfl, ht.obj, foll_f _ _ _, ?_⟩
    conv => whnf
    refine ⟨t, dx, _, rfl, ht.obj, by simp, ?_⟩
    rw [foll_p]
    conv => whnf
    have nt := ht.ne
    have hk : ∀ a xs, σ' a = some (.mlist xs) → (σ'.set t (.inst CT dx (fsT w d (f + 1)))) a = some (.mlist xs) := fun a xs e => by
      rw [set_ne fun q => ?_]; exact e
      rw [q, ht.obj] at e; cases e
    have hr' := hr.mono hk
    refine ⟨_, hr'.as, small_ok (by simp; omega), ?_⟩
    conv => whnf
    refine ⟨t, dx, _, _, rfl, by rw [set_at], there_f _ _ _, ?_⟩
    conv => whnf
    refine .inr ⟨d, _, rfl, by rw [set_ne nt.symm]; exact ht.dic, small_ok (by simp; omega), ?_⟩
    conv => whnf
    refine ⟨t, dx, _, _, rfl, by rw [set_ne nt, set_at], kept_f _ _ _, ?_⟩
    conv => whnf
    refine ⟨_, rfl, ?_⟩
    conv => whnf
    refine retS_ret (h _ ⟨?_, ?_⟩ ?_)
    · rw [set_ne nt, set_at]
    · rw [set_at, ← putK_map]
    · intro x h1 h2
      rw [set_ne h2, set_ne h1]

noncomputable def S_drop : Spec := fun ds σ Φ X => ∃ t nD w T f dx d, ds = [.obj t, nD] ∧ isObj nD = false ∧ TabAt σ t w T f dx d ∧ T.length ≤ 1000 ∧ (hasN nD T = none → X NR σ) ∧
  (∀ n row, nD = .int n → getA n T = some row → ∀ σ', TabAt σ' t w (delA n T) f dx d → (∀ x, x ≠ d → σ' x = σ x) → Φ .none σ')
theorem drop_vc (S : Nat → Spec) (h14 : S 14 = S_need) (ds : List D) (σ : Store) (Φ : D → Store → Prop) (X : Addr → Store → Prop) (h : S_drop ds σ Φ X) : ds.length = [0, 1].length ∧ vcSs S ⟨retX X, none⟩ p_Table_drop (initE [0, 1] ds 4) σ (retS Φ) := by
  obtain ⟨t, nD, w, T, f, dx, d, rfl, hn, ht, hT, h1, h2⟩ := h
  refine ⟨rfl, ?_⟩
  conv => whnf
  refine ⟨⟨t, dx, _, rfl, ht.obj, no_f _ _ _ (by decide) (by decide) (by decide) (by decide)⟩, ?_⟩
  conv => whnf
  rw [h14]
  refine ⟨t, nD, w, T, f, dx, d, rfl, hn, ht, fun row hh => ?_, fun hh => ⟨σ, Sub.refl _, h1 hh⟩⟩
  cases nD with
  | int n =>
    have hh' : getA n T = some row := hh
    conv => whnf
    refine ⟨t, dx, _, _, rfl, ht.obj, there_f _ _ _, ?_⟩
    refine ⟨⟨d, _, rfl, ht.dic⟩, ?_⟩
    conv => whnf
    refine ⟨d, _, _, rfl, ht.dic, by rw [getK_map, hh']; rfl, small_ok (by simp; omega), ?_⟩
    conv => whnf
    refine ⟨t, dx, _, _, rfl, by rw [set_ne ht.ne]; exact ht.obj, kept_f _ _ _, ?_⟩
    conv => whnf
    refine ⟨_, rfl, ?_⟩
    refine ⟨_, Sub.refl _, h2 n row rfl hh' _ ⟨?_, ?_⟩ ?_⟩
    · rw [set_ne ht.ne]; exact ht.obj
    · rw [set_at, delK_map]
    · intro x hx; rw [set_ne hx]
  | _ => cases hh

noncomputable def S_trow : Spec := fun ds σ Φ X => ∃ t nD w T f dx d, ds = [.obj t, nD] ∧ isObj nD = false ∧ TabAt σ t w T f dx d ∧ (hasN nD T = none → X NR σ) ∧ (∀ row, hasN nD T = some row → Φ (tI row) σ)
theorem trow_vc (S : Nat → Spec) (h14 : S 14 = S_need) (ds : List D) (σ : Store) (Φ : D → Store → Prop) (X : Addr → Store → Prop) (h : S_trow ds σ Φ X) : ds.length = [0, 1].length ∧ vcSs S ⟨retX X, none⟩ p_Table_row (initE [0, 1] ds 2) σ (retS Φ) := by
  obtain ⟨t, nD, w, T, f, dx, d, rfl, hn, ht, h1, h2⟩ := h
  refine ⟨rfl, ?_⟩
  conv => whnf
  refine ⟨⟨t, dx, _, rfl, ht.obj, no_f _ _ _ (by decide) (by decide) (by decide) (by decide)⟩, ?_⟩
  conv => whnf
  rw [h14]
  refine ⟨t, nD, w, T, f, dx, d, rfl, hn, ht, fun row hh => ?_, fun hh => ⟨σ, Sub.refl _, h1 hh⟩⟩
  cases nD with
  | int n =>
    have hh' : getA n T = some row := hh
    conv => whnf
    refine ⟨t, dx, _, _, rfl, ht.obj, there_f _ _ _, ?_⟩
    conv => whnf
    refine ⟨d, _, n, _, rfl, ht.dic, rfl, by rw [getK_map, hh']; rfl, ?_⟩
    exact retS_ret (h2 row hh)
  | _ => cases hh

noncomputable def S_nums : Spec := fun ds σ Φ _ => ∃ t w T f dx d, ds = [.obj t] ∧ TabAt σ t w T f dx d ∧ T.length ≤ 1000 ∧ ∀ (a : Addr) (ms : List Int), freshIn σ a → ms.Perm (T.map (·.1)) → ms.Pairwise (· ≤ ·) → Φ (.obj a) (σ.set a (.mlist (ms.map D.int)))
theorem exists_sorted (ns : List Int) : ∃ ms : List Int, ms.Perm ns ∧ ms.Pairwise (· ≤ ·) := by
  refine ⟨ns.mergeSort, List.mergeSort_perm _ _, ?_⟩
  have := List.pairwise_mergeSort (le := fun (a b : Int) => decide (a ≤ b)) (fun a b c => by simp; omega) (fun a b => by simp; omega) ns
  exact this.imp fun h => of_decide_eq_true h
theorem nums_vc (S : Nat → Spec) (ds : List D) (σ : Store) (Φ : D → Store → Prop) (X : Addr → Store → Prop) (h : S_nums ds σ Φ X) : ds.length = [0].length ∧ vcSs S ⟨retX X, none⟩ p_Table_numbers (initE [0] ds 1) σ (retS Φ) := by
  obtain ⟨t, w, T, f, dx, d, rfl, ht, hT, h⟩ := h
  refine ⟨rfl, ?_⟩
  conv => whnf
  refine ⟨t, dx, _, _, rfl, ht.obj, there_f _ _ _, ?_⟩
  conv => whnf
  refine ⟨d, _, rfl, ht.dic, small_ok (by simp; omega), ?_⟩
  conv => whnf
  obtain ⟨ms, h1, h2⟩ := exists_sorted (T.map (·.1))
  refine ⟨T.map (·.1), ms, ?_, rfl, small_ok (by simp; omega), h1, h2, ?_⟩
  · show some _ = some _
    rw [List.map_map, List.map_map]; rfl
  · intro a hf
    exact retS_ret (h a ms hf h1 h2)
end Mine.L07
end
section
open PySem PyProof.Rows
set_option Elab.async false
set_option maxRecDepth 20000
namespace Mine.L07

theorem slice_set (row : List Int) (v : Int) (c : Nat) (hc : c < row.length) :
    (sliceD (row.map D.int) none (some (c : Int)) ++ [D.int v]) ++ sliceD (row.map D.int) (some ((c : Int) + 1)) none = (row.set c v).map D.int := by
  have e1 : clipAt (row.map D.int).length (c : Int) = c := by unfold clipAt; rw [List.length_map]; omega
  have e2 : clipAt (row.map D.int).length ((c : Int) + 1) = c + 1 := by unfold clipAt; rw [List.length_map]; omega
  unfold sliceD
  simp only [Option.elim, e1, e2, List.drop_zero, Nat.sub_zero]
  rw [List.take_of_length_le (l := List.drop (c + 1) _) (by simp), List.map_set, List.set_eq_take_append_cons_drop, if_pos (by simpa using hc)]
  simp

noncomputable def S_change : Spec := fun ds σ Φ X => ∃ t nD cD vD w T f dx d, ds = [.obj t, nD, cD, vD] ∧ isObj nD = false ∧ isObj cD = false ∧ isObj vD = false ∧ TabAt σ t w T f dx d ∧ T.length ≤ 1000 ∧ w ≤ 6 ∧ (∀ x ∈ T, x.2.length = w) ∧
  (hasN nD T = none → X NR σ) ∧ (∀ row, hasN nD T = some row → colN w cD = none → X BC σ) ∧ (∀ row c, hasN nD T = some row → colN w cD = some c → whole vD = false → X BR σ) ∧
  (∀ n row c v, nD = .int n → getA n T = some row → colN w cD = some c → vD = .int v → ∀ σ', TabAt σ' t w (putA n (row.set c v) T) f dx d → (∀ x, x ≠ d → σ' x = σ x) → Φ .none σ')
theorem change_vc (S : Nat → Spec) (h14 : S 14 = S_need) (h16 : S 16 = S_hascol) (h3 : S 3 = S_whole) (ds : List D) (σ : Store) (Φ : D → Store → Prop) (X : Addr → Store → Prop) (h : S_change ds σ Φ X) : ds.length = [0, 1, 2, 3].length ∧ vcSs S ⟨retX X, none⟩ p_Table_change (initE [0, 1, 2, 3] ds 7) σ (retS Φ) := by
  obtain ⟨t, nD, cD, vD, w, T, f, dx, d, rfl, hn, hcD, hvD, ht, hT, hw, hrows, h1, h2, h4, h5⟩ := h
  refine ⟨rfl, ?_⟩
  conv => whnf
  refine ⟨⟨t, dx, _, rfl, ht.obj, no_f _ _ _ (by decide) (by decide) (by decide) (by decide)⟩, ?_⟩
  conv => whnf
  rw [h14]
  refine ⟨t, nD, w, T, f, dx, d, rfl, hn, ht, fun row hh => ?_, fun hh => ⟨σ, Sub.refl _, h1 hh⟩⟩
  conv => whnf
  refine ⟨⟨t, dx, _, rfl, ht.obj, no_f _ _ _ (by decide) (by decide) (by decide) (by decide)⟩, ?_⟩
  conv => whnf
  rw [h16]
  refine ⟨t, cD, w, T, f, dx, d, rfl, hcD, ht, ?_⟩
  conv => whnf
  cases hc : colN w cD with
  | none => exact kT rfl ⟨σ, Sub.refl _, h2 row hh hc⟩
  | some c =>
    refine kF rfl ?_
    conv => whnf
    rw [h3]
    refine ⟨_, rfl, hvD, ?_⟩
    conv => whnf
    cases hv : whole vD with
    | false => exact kT rfl ⟨σ, Sub.refl _, h4 row c hh hc hv⟩
    | true =>
      refine kF rfl ?_
      cases vD with
      | int v =>
        cases nD with
        | int n =>
          cases cD with
          | int ci =>
            have hh' : getA n T = some row := hh
            have hrl : row.length = w := hrows _ (getA_mem n T hh')
            have hci : 0 ≤ ci ∧ ci < w ∧ c = ci.toNat := by
              simp only [colN] at hc
              split at hc
              · rename_i q; cases hc; exact ⟨q.1, q.2, rfl⟩
              · cases hc
            have eci : ci = (c : Int) := by omega
            subst eci
            have hcl : c < row.length := by omega
            conv => whnf
            refine ⟨t, dx, _, _, rfl, ht.obj, there_f _ _ _, ?_⟩
            conv => whnf
            refine ⟨d, _, n, _, rfl, ht.dic, rfl, by rw [getK_map, hh']; rfl, ?_⟩
            conv => whnf
            refine ⟨_, _, _, rfl, rfl, rfl, small_ok (by simp; omega), ?_⟩
            conv => whnf
            refine ⟨rfl, ?_⟩
            conv => whnf
            refine ⟨_, _, rfl, rfl, small_ok (by simp [sliceD]; omega), .inr ⟨rfl, rfl, ?_⟩⟩
            conv => whnf
            refine ⟨_, _, _, rfl, rfl, rfl, small_ok (by simp; omega), ?_⟩
            conv => whnf
            refine ⟨_, _, rfl, rfl, small_ok (by simp [sliceD]; omega), .inr ⟨rfl, rfl, ?_⟩⟩
            conv => whnf
            refine ⟨t, dx, _, _, rfl, ht.obj, there_f _ _ _, ?_⟩
            conv => whnf
            refine .inr ⟨d, _, rfl, ht.dic, small_ok (by simp; omega), ?_⟩
            rw [slice_set row v c hcl]
            conv => whnf
            refine ⟨t, dx, _, _, rfl, by rw [set_ne ht.ne]; exact ht.obj, kept_f _ _ _, ?_⟩
            conv => whnf
            refine ⟨_, rfl, ?_⟩
            refine ⟨_, Sub.refl _, h5 n row c v rfl hh' hc rfl _ ⟨?_, ?_⟩ ?_⟩
            · rw [set_ne ht.ne]; exact ht.obj
            · rw [set_at, ← putK_map]
            · intro x hx; rw [set_ne hx]
          | _ => cases hc
        | _ => cases hh
      | _ => cases hv

noncomputable def S_same : Spec := fun ds σ Φ _ => ∃ row rD, ds = [tI row, rD] ∧ asL σ rD = some (row.map D.int) ∧ row.length ≤ 1000 ∧ Φ (.bool true) σ
theorem same_vc (S : Nat → Spec) (h21 : S 21 = S_whole) (ds : List D) (σ : Store) (Φ : D → Store → Prop) (X : Addr → Store → Prop) (h : S_same ds σ Φ X) : ds.length = [0, 1].length ∧ vcSs S ⟨retX X, none⟩ p_law_same (initE [0, 1] ds 3) σ (retS Φ) := by
  obtain ⟨row, rD, rfl, hr, hl, h⟩ := h
  refine ⟨rfl, ?_⟩
  conv => whnf
  refine ⟨_, rfl, ?_⟩
  conv => whnf
  refine kF rfl ?_
  conv => whnf
  refine ⟨_, rfl, small_ok (by simp; omega), ?_⟩
  conv => whnf
  refine ⟨_, hr, small_ok (by simp; omega), ?_⟩
  conv => whnf
  refine kF (by simp) ?_
  conv => whnf
  refine kF rfl ?_
  conv => whnf
  refine ⟨_, hr, small_ok (by simp; omega), ?_⟩
  conv => whnf
  rw [List.length_map]
  refine ⟨by unfold small; omega, by unfold small; omega, ?_⟩
  refine forS_inv (fun k ρ σ' => σ' = σ ∧ ∃ o, ρ = [some (tI row), some rD, o]) (fun _ _ _ _ => trivial) ?_ ?_ ⟨rfl, none, rfl⟩
  · rintro k e ρ σ' K hd ⟨rfl, o, rfl⟩ hK
    obtain ⟨rfl, hlt⟩ := rangeD_get hd
    have hx' : k < row.length := by omega
    conv => whnf
    refine ⟨_, rfl, small_ok (by simp; omega), .inl ⟨by omega, _, get_map_int (k := (k : Int).toNat) (by simpa using hx'), ?_⟩⟩
    conv => whnf
    rw [h21]
    refine ⟨_, rfl, rfl, ?_⟩
    conv => whnf
    refine kF rfl ?_
    conv => whnf
    refine ⟨_, rfl, small_ok (by simp; omega), .inl ⟨by omega, _, get_map_int (k := (k : Int).toNat) (by simpa using hx'), ?_⟩⟩
    conv => whnf
    refine ⟨_, hr, small_ok (by simp; omega), .inl ⟨by omega, _, get_map_int (k := (k : Int).toNat) (by simpa using hx'), ?_⟩⟩
    conv => whnf
    refine kF (by simp) ?_
    conv => whnf
    refine kF rfl ?_
    exact hK _ _ ⟨rfl, _, rfl⟩
  · rintro ρ σ' ⟨rfl, o, rfl⟩
    exact retS_ret h

noncomputable abbrev giv (d : D) : D := .tuple [.str "given", d]
/-- what a deed at the table answers -/
noncomputable def S_said : Spec := fun ds σ Φ _ => ∃ t kd nD cD vD w T f dx d, ds = [.obj t, .int kd, nD, cD, vD] ∧ (kd = 3 ∨ kd = 4 ∨ kd = 5) ∧ isObj nD = false ∧ isObj cD = false ∧ isObj vD = false ∧ TabAt σ t w T f dx d ∧ T.length ≤ 1000 ∧ w ≤ 6 ∧ (∀ x ∈ T, x.2.length = w) ∧
  (hasN nD T = none → Φ (.tuple [.str "no row", .none]) σ) ∧
  (∀ n row, nD = .int n → getA n T = some row →
    (kd = 3 → ∀ σ', TabAt σ' t w (delA n T) f dx d → (∀ x, x ≠ d → σ' x = σ x) → Φ (giv .none) σ') ∧
    (kd = 5 → Φ (giv (tI row)) σ) ∧
    (kd = 4 → (colN w cD = none → Φ (.tuple [.str "bad column", .none]) σ) ∧ (∀ c, colN w cD = some c → (whole vD = false → Φ (.tuple [.str "bad row", .none]) σ) ∧
      (∀ v, vD = .int v → ∀ σ', TabAt σ' t w (putA n (row.set c v) T) f dx d → (∀ x, x ≠ d → σ' x = σ x) → Φ (giv .none) σ'))))
theorem said_vc (S : Nat → Spec) (h22 : S 22 = S_drop) (h23 : S 23 = S_change) (h24 : S 24 = S_trow) (ds : List D) (σ : Store) (Φ : D → Store → Prop) (X : Addr → Store → Prop) (h : S_said ds σ Φ X) : ds.length = [0, 1, 2, 3, 4].length ∧ vcSs S ⟨retX X, none⟩ p_law_said (initE [0, 1, 2, 3, 4] ds 5) σ (retS Φ) := by
  obtain ⟨t, kd, nD, cD, vD, w, T, f, dx, d, rfl, hkd, hn, hcD, hvD, ht, hT, hw, hrows, h1, h2⟩ := h
  refine ⟨rfl, ?_⟩
  conv => whnf
  rcases hkd with rfl | rfl | rfl
  · refine kT rfl ?_
    conv => whnf
    refine ⟨⟨t, dx, _, rfl, ht.obj, no_f _ _ _ (by decide) (by decide) (by decide) (by decide)⟩, ?_⟩
    conv => whnf
    rw [h22]
    refine ⟨t, nD, w, T, f, dx, d, rfl, hn, ht, hT, fun q => ?_, fun n row e1 e2 σ' ht' hk => ?_⟩
    · conv => whnf
      refine ⟨rfl, ?_⟩
      exact retS_ret (h1 q)
    · conv => whnf
      refine ⟨rfl, ?_⟩
      exact retS_ret ((h2 n row e1 e2).1 rfl σ' ht' hk)
  · refine kF rfl ?_
    conv => whnf
    refine kT rfl ?_
    conv => whnf
    refine ⟨⟨t, dx, _, rfl, ht.obj, no_f _ _ _ (by decide) (by decide) (by decide) (by decide)⟩, ?_⟩
    conv => whnf
    rw [h23]
    refine ⟨t, nD, cD, vD, w, T, f, dx, d, rfl, hn, hcD, hvD, ht, hT, hw, hrows, fun q => ?_, fun row q q' => ?_, fun row c q q' q'' => ?_, fun n row c v e1 e2 e3 e4 σ' ht' hk => ?_⟩
    · conv => whnf
      refine ⟨rfl, ?_⟩
      exact retS_ret (h1 q)
    · conv => whnf
      refine ⟨rfl, ?_⟩
      refine ⟨rfl, ?_⟩
      cases nD with
      | int n => exact retS_ret (((h2 n row rfl q).2.2 rfl).1 q')
      | _ => cases q
    · conv => whnf
      refine ⟨rfl, ?_⟩
      refine ⟨rfl, ?_⟩
      refine ⟨rfl, ?_⟩
      cases nD with
      | int n => exact retS_ret ((((h2 n row rfl q).2.2 rfl).2 c q').1 q'')
      | _ => cases q
    · conv => whnf
      refine ⟨rfl, ?_⟩
      exact retS_ret ((((h2 n row e1 e2).2.2 rfl).2 c e3).2 v e4 σ' ht' hk)
  · refine kF rfl ?_
    conv => whnf
    refine kF rfl ?_
    conv => whnf
    refine ⟨⟨t, dx, _, rfl, ht.obj, no_f _ _ _ (by decide) (by decide) (by decide) (by decide)⟩, ?_⟩
    conv => whnf
    rw [h24]
    refine ⟨t, nD, w, T, f, dx, d, rfl, hn, ht, fun q => ?_, fun row q => ?_⟩
    · conv => whnf
      refine ⟨rfl, ?_⟩
      exact retS_ret (h1 q)
    · conv => whnf
      refine ⟨rfl, ?_⟩
      cases nD with
      | int n => exact retS_ret ((h2 n row rfl q).2.1 rfl)
      | _ => cases q

noncomputable def S_any : Spec := fun ds σ Φ _ => ∃ t nD w T f dx d, ds = [.obj t, nD] ∧ isObj nD = false ∧ TabAt σ t w T f dx d ∧ T.length ≤ 1000 ∧ hasN nD T = none ∧ Φ (.bool true) σ
theorem any_vc (S : Nat → Spec) (h22 : S 22 = S_drop) (ds : List D) (σ : Store) (Φ : D → Store → Prop) (X : Addr → Store → Prop) (h : S_any ds σ Φ X) : ds.length = [0, 1].length ∧ vcSs S ⟨retX X, none⟩ p_law_any (initE [0, 1] ds 3) σ (retS Φ) := by
  obtain ⟨t, nD, w, T, f, dx, d, rfl, hn, ht, hT, hh, h⟩ := h
  refine ⟨rfl, ?_⟩
  conv => whnf
  refine ⟨⟨t, dx, _, rfl, ht.obj, no_f _ _ _ (by decide) (by decide) (by decide) (by decide)⟩, ?_⟩
  conv => whnf
  rw [h22]
  refine ⟨t, nD, w, T, f, dx, d, rfl, hn, ht, hT, fun q => ?_, fun n row e1 e2 => ?_⟩
  · conv => whnf
    refine ⟨rfl, ?_⟩
    refine ⟨rfl, ?_⟩
    conv => whnf
    exact retS_ret h
  · subst e1
    have : hasN (.int n) T = some row := e2
    rw [this] at hh; cases hh
end Mine.L07
end
section
open PySem PyProof.Rows
set_option Elab.async false
set_option maxRecDepth 20000
set_option linter.unusedVariables false
namespace Mine.L07

/-- the law's own table: the rows as lists -/
noncomputable def LR (σ : Store) : List (Int × D) → Tab → Prop
  | [], [] => True
  | (k, v) :: r, (j, x) :: t => k = j ∧ asL σ v = some (x.map D.int) ∧ LR σ r t
  | _, _ => False
theorem asL_mono {σ σ' : Store} {v : D} {ds : List D} (h : asL σ v = some ds) (hk : ∀ a xs, σ a = some (.mlist xs) → σ' a = some (.mlist xs)) : asL σ' v = some ds := by
  have := Seq.keep h
  cases v with
  | obj a => exact asL_ent (hk a ds this)
  | _ => exact h
theorem LR.mono {σ σ' : Store} (hk : ∀ a xs, σ a = some (.mlist xs) → σ' a = some (.mlist xs)) : ∀ {kvs : List (Int × D)} {T : Tab}, LR σ kvs T → LR σ' kvs T
  | [], [], _ => trivial
  | (k, v) :: r, (j, x) :: t, ⟨h1, h2, h3⟩ => ⟨h1, asL_mono h2 hk, LR.mono hk h3⟩
  | [], _ :: _, h => h.elim
  | _ :: _, [], h => h.elim
theorem LR.get {σ : Store} (n : Int) : ∀ {kvs : List (Int × D)} {T : Tab}, LR σ kvs T → ∀ {x : List Int}, getA n T = some x → ∃ v, getK n kvs = some v ∧ asL σ v = some (x.map D.int)
  | [], [], _, x, e => by simp [getA] at e
  | (k, v) :: r, (j, y) :: t, ⟨h1, h2, h3⟩, x, e => by
    subst h1
    simp only [getA, getK] at e ⊢
    split
    · rename_i q; rw [if_pos q] at e; cases e; exact ⟨v, rfl, h2⟩
    · rename_i q; rw [if_neg q] at e; exact LR.get n h3 e
  | [], _ :: _, h, _, _ => h.elim
  | _ :: _, [], h, _, _ => h.elim
theorem LR.isSome {σ : Store} (n : Int) : ∀ {kvs : List (Int × D)} {T : Tab}, LR σ kvs T → (getK n kvs).isSome = (getA n T).isSome
  | [], [], _ => rfl
  | (k, v) :: r, (j, y) :: t, ⟨h1, h2, h3⟩ => by
    subst h1
    simp only [getA, getK]
    split
    · rfl
    · exact LR.isSome n h3
  | [], _ :: _, h => h.elim
  | _ :: _, [], h => h.elim
theorem LR.put {σ : Store} (n : Int) {v : D} {x : List Int} (hv : asL σ v = some (x.map D.int)) : ∀ {kvs : List (Int × D)} {T : Tab}, LR σ kvs T → LR σ (putK n v kvs) (putA n x T)
  | [], [], _ => ⟨rfl, hv, trivial⟩
  | (k, u) :: r, (j, y) :: t, ⟨h1, h2, h3⟩ => by
    subst h1
    simp only [putA, putK]
    split
    · exact ⟨rfl, hv, h3⟩
    · exact ⟨rfl, h2, LR.put n hv h3⟩
  | [], _ :: _, h => h.elim
  | _ :: _, [], h => h.elim
theorem LR.del {σ : Store} (n : Int) : ∀ {kvs : List (Int × D)} {T : Tab}, LR σ kvs T → LR σ (delK n kvs) (delA n T)
  | [], [], _ => trivial
  | (k, u) :: r, (j, y) :: t, ⟨h1, h2, h3⟩ => by
    subst h1
    have ih := LR.del n h3
    unfold delK delA at ih ⊢
    by_cases q : k = n
    · rw [List.filter_cons_of_neg (by simp [q]), List.filter_cons_of_neg (by simp [q])]; exact ih
    · rw [List.filter_cons_of_pos (by simp [q]), List.filter_cons_of_pos (by simp [q])]; exact ⟨rfl, h2, ih⟩
  | [], _ :: _, h => h.elim
  | _ :: _, [], h => h.elim
theorem LR.keys {σ : Store} : ∀ {kvs : List (Int × D)} {T : Tab}, LR σ kvs T → kvs.map (·.1) = T.map (·.1)
  | [], [], _ => rfl
  | (k, u) :: r, (j, y) :: t, ⟨h1, h2, h3⟩ => by
    subst h1
    rw [List.map_cons, List.map_cons, LR.keys h3]
  | [], _ :: _, h => h.elim
  | _ :: _, [], h => h.elim
theorem LR.len {σ : Store} {kvs : List (Int × D)} {T : Tab} (h : LR σ kvs T) : kvs.length = T.length := by
  have := congrArg List.length h.keys
  simpa using this

structure Inv (σ : Store) (t p : Addr) (w : Nat) (T : Tab) (made : Nat) (dx d : Addr) : Prop where
  tab : TabAt σ t w T made dx d
  there : ∃ kvs, σ p = some (.mdict kvs) ∧ LR σ kvs T
  rows : ∀ x ∈ T, x.2.length = w
  ne : p ≠ d
theorem Inv.pt {σ t p w T made dx d} (h : Inv σ t p w T made dx d) : p ≠ t := fun q => by
  obtain ⟨kvs, e, _⟩ := h.there
  rw [q, h.tab.obj] at e; cases e

theorem six (xs : List D) (h6 : xs.length = 6) (hall : ∀ d ∈ xs, isObj d = false) (k : Int) (h : k % 6 = k) : ∃ d, xs[k.toNat]? = some d ∧ isObj d = false := by
  have hl : k.toNat < xs.length := by omega
  exact ⟨xs[k.toNat], List.getElem?_eq_getElem hl, hall _ (List.getElem_mem hl)⟩

noncomputable def S_deed : Spec := fun ds σ Φ _ => ∃ t p w T made dx d c B, ds = [.obj t, .obj p, .int c, .int (made : Nat)] ∧ Inv σ t p w T made dx d ∧ T.length ≤ 199 ∧ w ≤ 6 ∧ Bt B c ∧ B ≤ 2000000 ∧
  ∀ T' σ', Inv σ' t p w T' made dx d → T'.length ≤ 199 → Φ (.bool true) σ'

noncomputable abbrev envD (t p : Addr) (c made kind more : Int) (nD cD vD : D) (o9 o10 o11 : Option D) : PEnv := [some (.obj t), some (.obj p), some (.int c), some (.int made), some (.int kind), some (.int more), some nD, some cD, some vD, o9, o10, o11]

theorem ml_set {σ : Store} {a : Addr} {m m' : MObj} (h : σ a = some m) (hm : ∀ xs, m ≠ .mlist xs) : ∀ x xs, σ x = some (.mlist xs) → (σ.set a m') x = some (.mlist xs) := fun x xs e => by
  rw [set_ne fun q => ?_]; exact e
  rw [q, h] at e; cases e; exact hm xs rfl
theorem ml_but {σ σ' : Store} {a : Addr} {kvs : List (Int × D)} (h : σ a = some (.mdict kvs)) (hk : ∀ x, x ≠ a → σ' x = σ x) : ∀ x xs, σ x = some (.mlist xs) → σ' x = some (.mlist xs) := fun x xs e => by
  rw [hk x fun q => ?_]; exact e
  rw [q, h] at e; cases e

theorem shs {x : Str} (h : PyData.strOk x = true) : SeqAt.shaped (.str x) = true := by
  show (PyData.canLay0 (.str x) && decide (PyData.depth (.str x) ≤ 64)) = true
  simp [PyData.canLay0, PyData.depth, h]
theorem sh1 : SeqAt.shaped (.str "no row") = true := shs (by decide +kernel)
theorem sh2 : SeqAt.shaped (.str "given") = true := shs (by decide +kernel)
theorem sh3 : SeqAt.shaped (.str "bad row") = true := shs (by decide +kernel)
theorem sh4 : SeqAt.shaped (.str "bad column") = true := shs (by decide +kernel)
/-- the last part: the answer is as foretold; nothing changes -/
theorem tail_same {S : Nat → Spec} {σ : Store} {Φ : D → Store → Prop} {X : Addr → Store → Prop} {t p : Addr} {c made kind more : Int} {nD cD vD : D} {wd : Str} (h1 : PyData.eqv (.str wd) (.str wd) = true) (h2 : PyData.eqv (.str wd) (.str "no row") = false) (h3 : PyData.eqv (.str wd) (.str "given") = false) (hs : SeqAt.shaped (.str wd) = true) (h : Φ (.bool true) σ) :
    vcSs S ⟨retX X, none⟩ (p_law_deed.drop 11) (envD t p c made kind more nD cD vD (some (.str wd)) (some (.tuple [.str wd, .none])) none) σ (retS Φ) := by
  conv => whnf
  refine ⟨_, rfl, small_ok (by simp), .inl ⟨by decide, _, rfl, ?_⟩⟩
  conv => whnf
  refine ⟨_, _, rfl, rfl, hs, hs, ?_⟩
  conv => whnf
  refine kF (by rw [h1]; rfl) ?_
  conv => whnf
  refine ⟨_, _, rfl, rfl, hs, sh1, ?_⟩
  conv => whnf
  refine kF h2 ?_
  conv => whnf
  refine ⟨_, _, rfl, rfl, hs, sh2, ?_⟩
  conv => whnf
  refine kF' h3 ?_
  conv => whnf
  refine kF rfl ?_
  conv => whnf
  refine ⟨_, _, rfl, rfl, hs, sh2, ?_⟩
  conv => whnf
  refine kF' h3 ?_
  conv => whnf
  refine kF rfl ?_
  conv => whnf
  refine ⟨_, _, rfl, rfl, hs, sh2, ?_⟩
  conv => whnf
  refine kF' h3 ?_
  conv => whnf
  refine kF rfl ?_
  conv => whnf
  refine ⟨_, rfl, small_ok (by simp), .inl ⟨by decide, _, rfl, ?_⟩⟩
  conv => whnf
  refine ⟨_, rfl, ?_⟩
  exact retS_ret h
end Mine.L07
end
section
open PySem PyProof.Rows
set_option Elab.async false
set_option maxRecDepth 20000
set_option linter.unusedVariables false
namespace Mine.L07

theorem ev1 : PyData.eqv (.str "given") (.str "given") = true := by simp [PyData.eqv]
theorem ev2 : PyData.eqv (.str "given") (.str "no row") = false := by simp [PyData.eqv]; decide
theorem ev3 : PyData.eqv (.str "no row") (.str "no row") = true := by simp [PyData.eqv]
theorem ev4 : PyData.eqv (.str "bad row") (.str "no row") = false := by simp [PyData.eqv]; decide
theorem ev5 : PyData.eqv (.str "bad column") (.str "no row") = false := by simp [PyData.eqv]; decide
theorem ev6 : PyData.eqv (.str "bad row") (.str "given") = false := by simp [PyData.eqv]; decide
theorem ev7 : PyData.eqv (.str "bad column") (.str "given") = false := by simp [PyData.eqv]; decide
theorem ev8 : PyData.eqv (.str "bad row") (.str "bad row") = true := by simp [PyData.eqv]
theorem ev9 : PyData.eqv (.str "bad column") (.str "bad column") = true := by simp [PyData.eqv]

section
variable {S : Nat → Spec} {σ : Store} {Φ : D → Store → Prop} {X : Addr → Store → Prop} {t p dx d : Addr} {w made : Nat} {T : Tab} {c more : Int} {cD vD : D}

/-- no such row -/
theorem tail_none {kind : Int} {nD : D} (h28 : S 28 = S_any) (hn : isObj nD = false) (I : Inv σ t p w T made dx d) (hT : T.length ≤ 199) (hh : hasN nD T = none) (h : Φ (.bool true) σ) :
    vcSs S ⟨retX X, none⟩ (p_law_deed.drop 11) (envD t p c made kind more nD cD vD (some (.str "no row")) (some (.tuple [.str "no row", .none])) none) σ (retS Φ) := by
  conv => whnf
  refine ⟨_, rfl, small_ok (by simp), .inl ⟨by decide, _, rfl, ?_⟩⟩
  conv => whnf
  refine ⟨_, _, rfl, rfl, sh1, sh1, ?_⟩
  conv => whnf
  refine kF (by rw [ev3]; rfl) ?_
  conv => whnf
  refine ⟨_, _, rfl, rfl, sh1, sh1, ?_⟩
  conv => whnf
  refine kT ev3 ?_
  conv => whnf
  rw [h28]
  exact ⟨t, nD, w, T, made, dx, d, rfl, hn, I.tab, by omega, hh, retS_ret h⟩

/-- the row is shown -/
theorem tail_row {n : Int} {row : List Int} (h29 : S 29 = S_same) (I : Inv σ t p w T made dx d) (hw : w ≤ 6) (hh : getA n T = some row) (h : Φ (.bool true) σ) :
    vcSs S ⟨retX X, none⟩ (p_law_deed.drop 11) (envD t p c made 5 more (.int n) cD vD (some (.str "given")) (some (giv (tI row))) none) σ (retS Φ) := by
  obtain ⟨kvs, hp, hL⟩ := I.there
  obtain ⟨v, hv1, hv2⟩ := hL.get n hh
  have hrl : row.length = w := I.rows _ (getA_mem n T hh)
  conv => whnf
  refine ⟨_, rfl, small_ok (by simp), .inl ⟨by decide, _, rfl, ?_⟩⟩
  conv => whnf
  refine ⟨_, _, rfl, rfl, sh2, sh2, ?_⟩
  conv => whnf
  refine kF (by rw [ev1]; rfl) ?_
  conv => whnf
  refine ⟨_, _, rfl, rfl, sh2, sh1, ?_⟩
  conv => whnf
  refine kF ev2 ?_
  conv => whnf
  refine ⟨_, _, rfl, rfl, sh2, sh2, ?_⟩
  conv => whnf
  refine kT' ev1 ?_
  conv => whnf
  refine kT' rfl ?_
  conv => whnf
  refine kT rfl ?_
  conv => whnf
  refine ⟨_, rfl, small_ok (by simp), .inl ⟨by decide, _, rfl, ?_⟩⟩
  conv => whnf
  refine ⟨p, kvs, n, v, rfl, hp, rfl, hv1, ?_⟩
  conv => whnf
  rw [h29]
  exact ⟨row, v, rfl, hv2, by omega, retS_ret h⟩

/-- the row is dropped -/
theorem tail_drop {n : Int} {row : List Int} {σ' : Store} (I : Inv σ t p w T made dx d) (hT : T.length ≤ 199) (hh : getA n T = some row) (ht : TabAt σ' t w (delA n T) made dx d) (hk : ∀ x, x ≠ d → σ' x = σ x)
    (h : ∀ T' σ', Inv σ' t p w T' made dx d → T'.length ≤ 199 → Φ (.bool true) σ') :
    vcSs S ⟨retX X, none⟩ (p_law_deed.drop 11) (envD t p c made 3 more (.int n) cD vD (some (.str "given")) (some (giv .none)) none) σ' (retS Φ) := by
  obtain ⟨kvs, hp, hL⟩ := I.there
  obtain ⟨v, hv1, hv2⟩ := hL.get n hh
  have hp' : σ' p = some (.mdict kvs) := by rw [hk p I.ne]; exact hp
  have hL' := hL.mono (ml_but I.tab.dic hk)
  have hl := hL.len
  conv => whnf
  refine ⟨_, rfl, small_ok (by simp), .inl ⟨by decide, _, rfl, ?_⟩⟩
  conv => whnf
  refine ⟨_, _, rfl, rfl, sh2, sh2, ?_⟩
  conv => whnf
  refine kF (by rw [ev1]; rfl) ?_
  conv => whnf
  refine ⟨_, _, rfl, rfl, sh2, sh1, ?_⟩
  conv => whnf
  refine kF ev2 ?_
  conv => whnf
  refine ⟨_, _, rfl, rfl, sh2, sh2, ?_⟩
  conv => whnf
  refine kT' ev1 ?_
  conv => whnf
  refine kF' rfl ?_
  conv => whnf
  refine kF rfl ?_
  conv => whnf
  refine ⟨_, _, rfl, rfl, sh2, sh2, ?_⟩
  conv => whnf
  refine kT' ev1 ?_
  conv => whnf
  refine kT' rfl ?_
  conv => whnf
  refine kT rfl ?_
  conv => whnf
  refine ⟨⟨p, kvs, rfl, hp'⟩, ?_⟩
  conv => whnf
  refine ⟨p, kvs, v, rfl, hp', hv1, small_ok (by omega), ?_⟩
  conv => whnf
  refine ⟨_, _, rfl, rfl, sh2, sh2, ?_⟩
  conv => whnf
  refine kT' ev1 ?_
  conv => whnf
  refine kF' rfl ?_
  conv => whnf
  refine kF rfl ?_
  conv => whnf
  refine ⟨_, rfl, small_ok (by simp), .inl ⟨by decide, _, rfl, ?_⟩⟩
  conv => whnf
  refine ⟨_, rfl, ?_⟩
  refine retS_ret (h (delA n T) _ ⟨⟨?_, ?_⟩, ⟨delK n kvs, set_at _ _ _, (hL'.del n).mono (ml_set hp' (by intro xs q; cases q))⟩, fun x hx => I.rows x ((List.mem_filter.mp hx).1), I.ne⟩ (Nat.le_trans (List.length_filter_le _ _) hT))
  · rw [set_ne I.pt.symm]; exact ht.obj
  · rw [set_ne I.ne.symm]; exact ht.dic

/-- the row is changed -/
theorem tail_change {n v : Int} {ci : Nat} {row : List Int} {σ' : Store} (I : Inv σ t p w T made dx d) (hT : T.length ≤ 199) (hw : w ≤ 6) (hci : ci < w) (hh : getA n T = some row) (ht : TabAt σ' t w (putA n (row.set ci v) T) made dx d) (hk : ∀ x, x ≠ d → σ' x = σ x)
    (h : ∀ T' σ', Inv σ' t p w T' made dx d → T'.length ≤ 199 → Φ (.bool true) σ') :
    vcSs S ⟨retX X, none⟩ (p_law_deed.drop 11) (envD t p c made 4 more (.int n) (.int ci) (.int v) (some (.str "given")) (some (giv .none)) none) σ' (retS Φ) := by
  obtain ⟨kvs, hp, hL⟩ := I.there
  obtain ⟨u, hv1, hv2⟩ := hL.get n hh
  have hp' : σ' p = some (.mdict kvs) := by rw [hk p I.ne]; exact hp
  have hL' := hL.mono (ml_but I.tab.dic hk)
  have hv2' := asL_mono hv2 (ml_but I.tab.dic hk)
  have hl := hL.len
  have hrl : row.length = w := I.rows _ (getA_mem n T hh)
  conv => whnf
  refine ⟨_, rfl, small_ok (by simp), .inl ⟨by decide, _, rfl, ?_⟩⟩
  conv => whnf
  refine ⟨_, _, rfl, rfl, sh2, sh2, ?_⟩
  conv => whnf
  refine kF (by rw [ev1]; rfl) ?_
  conv => whnf
  refine ⟨_, _, rfl, rfl, sh2, sh1, ?_⟩
  conv => whnf
  refine kF ev2 ?_
  conv => whnf
  refine ⟨_, _, rfl, rfl, sh2, sh2, ?_⟩
  conv => whnf
  refine kT' ev1 ?_
  conv => whnf
  refine kF' rfl ?_
  conv => whnf
  refine kF rfl ?_
  conv => whnf
  refine ⟨_, _, rfl, rfl, sh2, sh2, ?_⟩
  conv => whnf
  refine kT' ev1 ?_
  conv => whnf
  refine kF' rfl ?_
  conv => whnf
  refine kF rfl ?_
  conv => whnf
  refine ⟨_, _, rfl, rfl, sh2, sh2, ?_⟩
  conv => whnf
  refine kT' ev1 ?_
  conv => whnf
  refine kT' rfl ?_
  conv => whnf
  refine kT rfl ?_
  conv => whnf
  refine ⟨p, kvs, n, u, rfl, hp', rfl, hv1, ?_⟩
  conv => whnf
  refine ⟨_, hv2', small_ok (by simp; omega), ?_⟩
  intro q hf
  conv => whnf
  refine .inl ⟨q, _, rfl, set_at _ _ _, by omega, by simp; omega, small_ok (by simp; omega), ?_⟩
  rw [set_set]
  have qp : p ≠ q := fun e => by have := hf.1; rw [← e, hp'] at this; cases this
  have qt : t ≠ q := fun e => by have := hf.1; rw [← e, ht.obj] at this; cases this
  have qd : d ≠ q := fun e => by have := hf.1; rw [← e, ht.dic] at this; cases this
  conv => whnf
  refine .inr ⟨p, kvs, rfl, by rw [set_ne qp]; exact hp', small_ok (by omega), ?_⟩
  conv => whnf
  refine ⟨_, rfl, small_ok (by simp), .inl ⟨by decide, _, rfl, ?_⟩⟩
  conv => whnf
  refine ⟨_, rfl, ?_⟩
  refine retS_ret (h (putA n (row.set ci v) T) _ ⟨⟨?_, ?_⟩, ⟨putK n (.obj q) kvs, set_at _ _ _, ?_⟩, putA_all (P := fun x => x.length = w) n _ (by simp; omega) T I.rows, I.ne⟩ (by rw [putA_len' n _ T hh]; exact hT))
  · rw [set_ne I.pt.symm, set_ne qt]; exact ht.obj
  · rw [set_ne I.ne.symm, set_ne qd]; exact ht.dic
  · have k1 : ∀ a xs, σ' a = some (.mlist xs) → ((σ'.set q (.mlist ((row.map D.int).set (ci : Int).toNat (.int v)))).set p (.mdict (putK n (.obj q) kvs))) a = some (.mlist xs) := fun a xs e => by
      rw [set_ne fun q' => ?_, set_ne fun q' => ?_]; exact e
      · rw [q', hf.1] at e; cases e
      · rw [q', hp'] at e; cases e
    refine (hL'.mono k1).put n (asL_ent ?_)
    rw [set_ne qp.symm, set_at, Int.toNat_natCast, ← List.map_set]
end
end Mine.L07
end
section
open PySem PyProof.Rows
set_option Elab.async false
set_option maxRecDepth 20000
set_option linter.unusedVariables false
namespace Mine.L07

section
variable {S : Nat → Spec} {σ : Store} {Φ : D → Store → Prop} {X : Addr → Store → Prop} {t p dx d : Addr} {w made : Nat} {T : Tab} {c more kind : Int} {nD cD vD : D}

/-- the answer is foretold, the deed is done -/
theorem deed_rest (h21 : S 21 = S_whole) (h27 : S 27 = S_said) (h28 : S 28 = S_any) (h29 : S 29 = S_same) (hkd : kind = 3 ∨ kind = 4 ∨ kind = 5) (hn : isObj nD = false) (hcD : isObj cD = false) (hvD : isObj vD = false) (I : Inv σ t p w T made dx d) (hT : T.length ≤ 199) (hw : w ≤ 6)
    (h : ∀ T' σ', Inv σ' t p w T' made dx d → T'.length ≤ 199 → Φ (.bool true) σ') :
    vcSs S ⟨retX X, none⟩ (p_law_deed.drop 8) (envD t p c made kind more nD cD vD none none none) σ (retS Φ) := by
  have hΦ : Φ (.bool true) σ := h T σ I hT
  obtain ⟨kvs, hp, hL⟩ := I.there
  have said : ∀ (Q : D → Store → Prop), (hasN nD T = none → Q (.tuple [.str "no row", .none]) σ) →
      (∀ n row, nD = .int n → getA n T = some row →
        (kind = 3 → ∀ σ', TabAt σ' t w (delA n T) made dx d → (∀ x, x ≠ d → σ' x = σ x) → Q (giv .none) σ') ∧
        (kind = 5 → Q (giv (tI row)) σ) ∧
        (kind = 4 → (colN w cD = none → Q (.tuple [.str "bad column", .none]) σ) ∧ (∀ c, colN w cD = some c → (whole vD = false → Q (.tuple [.str "bad row", .none]) σ) ∧
          (∀ v, vD = .int v → ∀ σ', TabAt σ' t w (putA n (row.set c v) T) made dx d → (∀ x, x ≠ d → σ' x = σ x) → Q (giv .none) σ')))) →
      S 27 [.obj t, .int kind, nD, cD, vD] σ Q (retX X) := fun Q h1 h2 => by
    rw [h27]
    exact ⟨t, kind, nD, cD, vD, w, T, made, dx, d, rfl, hkd, hn, hcD, hvD, I.tab, by omega, hw, I.rows, h1, h2⟩
  conv => whnf
  rw [h21]
  refine ⟨_, rfl, hn, ?_⟩
  conv => whnf
  cases hh : hasN nD T with
  | none =>
    have fin : S 27 [.obj t, .int kind, nD, cD, vD] σ (fun e σ' => vcSs S ⟨retX X, none⟩ (p_law_deed.drop 11) (envD t p c made kind more nD cD vD (some (.str "no row")) (some e) none) σ' (retS Φ)) (retX X) :=
      said _ (fun _ => tail_none h28 hn I hT hh hΦ) fun n row e1 e2 => by
        subst e1
        have : hasN (.int n) T = some row := e2
        rw [this] at hh; cases hh
    cases nD with
    | int n =>
      refine kF rfl ?_
      conv => whnf
      refine .inr ⟨p, kvs, rfl, hp, ?_⟩
      conv => whnf
      rw [hL.isSome n, show getA n T = none from hh]
      refine kT rfl ?_
      conv => whnf
      refine kT rfl ?_
      exact fin
    | obj a => cases hn
    | _ =>
      refine kT rfl ?_
      conv => whnf
      refine kT rfl ?_
      exact fin
  | some row =>
    cases nD with
    | int n =>
      have hh' : getA n T = some row := hh
      refine kF rfl ?_
      conv => whnf
      refine .inr ⟨p, kvs, rfl, hp, ?_⟩
      conv => whnf
      rw [hL.isSome n, hh']
      refine kF rfl ?_
      conv => whnf
      refine kF rfl ?_
      conv => whnf
      rcases hkd with rfl | rfl | rfl
      · refine kF' rfl ?_
        conv => whnf
        refine kF rfl ?_
        conv => whnf
        refine kF' rfl ?_
        conv => whnf
        refine kF rfl ?_
        refine said (fun e σ' => vcSs S ⟨retX X, none⟩ (p_law_deed.drop 11) (envD t p c made 3 more (.int n) cD vD (some (.str "given")) (some e) none) σ' (retS Φ)) (fun q => (by rw [hh] at q; cases q)) fun n' row' e1 e2 => ?_
        cases e1
        rw [hh'] at e2; cases e2
        exact ⟨fun _ σ' ht hk => tail_drop I hT hh' ht hk h, fun q => (by cases q), fun q => (by cases q)⟩
      · refine kT' rfl ?_
        conv => whnf
        rw [h21]
        refine ⟨_, rfl, hcD, ?_⟩
        conv => whnf
        -- the column
        have bad : colN w cD = none → S 27 [.obj t, .int 4, .int n, cD, vD] σ (fun e σ' => vcSs S ⟨retX X, none⟩ (p_law_deed.drop 11) (envD t p c made 4 more (.int n) cD vD (some (.str "bad column")) (some e) none) σ' (retS Φ)) (retX X) := fun hc =>
          said _ (fun q => (by rw [hh] at q; cases q)) fun n' row' e1 e2 => ⟨fun q => (by cases q), fun q => (by cases q), fun _ => ⟨fun _ => tail_same ev9 ev5 ev7 sh4 hΦ, fun c' q => (by rw [hc] at q; cases q)⟩⟩
        have good : ∀ ci, colN w cD = some ci → ((whole vD = false → S 27 [.obj t, .int 4, .int n, cD, vD] σ (fun e σ' => vcSs S ⟨retX X, none⟩ (p_law_deed.drop 11) (envD t p c made 4 more (.int n) cD vD (some (.str "bad row")) (some e) none) σ' (retS Φ)) (retX X)) ∧
            (∀ v, vD = .int v → S 27 [.obj t, .int 4, .int n, cD, vD] σ (fun e σ' => vcSs S ⟨retX X, none⟩ (p_law_deed.drop 11) (envD t p c made 4 more (.int n) cD vD (some (.str "given")) (some e) none) σ' (retS Φ)) (retX X))) := fun ci hc => by
          refine ⟨fun hv => said _ (fun q => (by rw [hh] at q; cases q)) fun n' row' e1 e2 => ⟨fun q => (by cases q), fun q => (by cases q), fun _ => ⟨fun q => (by rw [hc] at q; cases q), fun c' q => ⟨fun _ => tail_same ev8 ev4 ev6 sh3 hΦ, fun v e => (by rw [e] at hv; cases hv)⟩⟩⟩,
           fun v hv => said _ (fun q => (by rw [hh] at q; cases q)) fun n' row' e1 e2 => ⟨fun q => (by cases q), fun q => (by cases q), fun _ => ⟨fun q => (by rw [hc] at q; cases q), fun c' q => ⟨fun e => (by rw [hv] at e; cases e), fun v' e σ' ht hk => ?_⟩⟩⟩⟩
          subst e
          cases e1
          rw [hh'] at e2; cases e2
          rw [hc] at q; cases q
          cases cD with
          | int i =>
            have hi : 0 ≤ i ∧ i < w ∧ ci = i.toNat := by
              simp only [colN] at hc
              split at hc
              · rename_i q; cases hc; exact ⟨q.1, q.2, rfl⟩
              · cases hc
            have ei : i = (ci : Int) := by omega
            subst ei
            exact tail_change I hT hw (by omega) hh' ht hk h
          | _ => cases hc
        cases cD with
        | int i =>
          refine kF rfl ?_
          conv => whnf
          by_cases hi : 0 ≤ i
          · refine kT' (decide_eq_true hi) ?_
            conv => whnf
            refine ⟨t, dx, _, _, rfl, I.tab.obj, width_f _ _ _, ?_⟩
            conv => whnf
            by_cases hi2 : i < w
            · have hc : colN w (.int i) = some i.toNat := by simp [colN, hi, hi2]
              refine kF (by rw [decide_eq_true hi2]; rfl) ?_
              conv => whnf
              refine kF' rfl ?_
              conv => whnf
              refine kF rfl ?_
              conv => whnf
              refine kT' rfl ?_
              conv => whnf
              rw [h21]
              refine ⟨_, rfl, hvD, ?_⟩
              conv => whnf
              cases hv : whole vD with
              | false =>
                refine kT' rfl ?_
                conv => whnf
                refine kT rfl ?_
                exact (good _ hc).1 hv
              | true =>
                cases vD with
                | int v =>
                  refine kF' rfl ?_
                  conv => whnf
                  refine kF rfl ?_
                  exact (good _ hc).2 v rfl
                | _ => cases hv
            · have hc : colN w (.int i) = none := by simp [colN, hi2]
              refine kT (by rw [decide_eq_false hi2]; rfl) ?_
              conv => whnf
              refine kT' rfl ?_
              conv => whnf
              refine kT rfl ?_
              exact bad hc
          · have hc : colN w (.int i) = none := by simp [colN, hi]
            refine kF' (decide_eq_false hi) ?_
            conv => whnf
            refine kT rfl ?_
            conv => whnf
            refine kT' rfl ?_
            conv => whnf
            refine kT rfl ?_
            exact bad hc
        | obj a => cases hcD
        | _ =>
          refine kT rfl ?_
          conv => whnf
          refine kT' rfl ?_
          conv => whnf
          refine kT rfl ?_
          exact bad rfl
      · refine kF' rfl ?_
        conv => whnf
        refine kF rfl ?_
        conv => whnf
        refine kF' rfl ?_
        conv => whnf
        refine kF rfl ?_
        refine said (fun e σ' => vcSs S ⟨retX X, none⟩ (p_law_deed.drop 11) (envD t p c made 5 more (.int n) cD vD (some (.str "given")) (some e) none) σ' (retS Φ)) (fun q => (by rw [hh] at q; cases q)) fun n' row' e1 e2 => ?_
        cases e1
        rw [hh'] at e2; cases e2
        exact ⟨fun q => (by cases q), fun _ => tail_row h29 I hw hh' hΦ, fun q => (by cases q)⟩
    | _ => cases hh
end
end Mine.L07
end
section
open PySem PyProof.Rows
set_option Elab.async false
set_option maxRecDepth 20000
set_option linter.unusedVariables false
namespace Mine.L07

noncomputable abbrev envX (t p : Addr) (c made : Int) (o4 o5 o6 o7 o8 : Option D) : PEnv := [some (.obj t), some (.obj p), some (.int c), some (.int made), o4, o5, o6, o7, o8, none, none, none]
theorem six' {xs : List D} {P : D → Prop} {k : Int} (h6 : xs.length = 6) (hall : ∀ d ∈ xs, isObj d = false) (h : k % 6 = k) (hP : ∀ d, isObj d = false → P d) : ∃ d, xs[k.toNat]? = some d ∧ P d := by
  obtain ⟨d, h1, h2⟩ := six xs h6 hall k h
  exact ⟨d, h1, hP d h2⟩
theorem deed_vc (S : Nat → Spec) (h20 : S 20 = S_value) (h21 : S 21 = S_whole) (h27 : S 27 = S_said) (h28 : S 28 = S_any) (h29 : S 29 = S_same) (ds : List D) (σ : Store) (Φ : D → Store → Prop) (X : Addr → Store → Prop) (h : S_deed ds σ Φ X) : ds.length = [0, 1, 2, 3].length ∧ vcSs S ⟨retX X, none⟩ p_law_deed (initE [0, 1, 2, 3] ds 12) σ (retS Φ) := by
  obtain ⟨t, p, w, T, made, dx, d, c, B, rfl, I, hT, hw, hB, hB2, h⟩ := h
  refine ⟨rfl, ?_⟩
  show vcSs S ⟨retX X, none⟩ p_law_deed (envX t p c made none none none none none) σ (retS Φ)
  conv => whnf
  refine ⟨by decide, ?_⟩
  show vcSs S ⟨retX X, none⟩ (p_law_deed.drop 1) (envX t p c made (some (.int (3 + c % 3))) none none none none) σ (retS Φ)
  conv => whnf
  refine ⟨by decide, ?_⟩
  show vcSs S ⟨retX X, none⟩ (p_law_deed.drop 2) (envX t p c made (some (.int (3 + c % 3))) (some (.int (c / 6))) none none none) σ (retS Φ)
  conv => whnf
  refine ⟨by omega, ?_⟩
  show vcSs S ⟨retX X, none⟩ (p_law_deed.drop 3) (envX t p c made (some (.int (3 + c % 3))) (some (.int (c / 6))) (some (.int (c / 6 % (made + 3) - 1))) none none) σ (retS Φ)
  conv => whnf
  refine ⟨by decide, ?_⟩
  conv => whnf
  refine ⟨t, dx, _, _, rfl, I.tab.obj, width_f _ _ _, ?_⟩
  conv => whnf
  refine ⟨by omega, ?_⟩
  show vcSs S ⟨retX X, none⟩ (p_law_deed.drop 4) (envX t p c made (some (.int (3 + c % 3))) (some (.int (c / 6))) (some (.int (c / 6 % (made + 3) - 1))) (some (.int (c / 6 / 3 % (w + 2) - 1))) none) σ (retS Φ)
  conv => whnf
  refine ⟨.inr (by decide), ?_⟩
  conv => whnf
  refine ⟨bits_pow (bt_div hB) hB2 (by decide), ?_⟩
  conv => whnf
  refine ⟨by decide, ?_⟩
  conv => whnf
  rw [h20]
  refine ⟨_, rfl, fun v0 => ?_⟩
  show vcSs S ⟨retX X, none⟩ (p_law_deed.drop 5) (envD t p c made (3 + c % 3) (c / 6) (.int (c / 6 % (made + 3) - 1)) (.int (c / 6 / 3 % (w + 2) - 1)) (.int v0) none none none) σ (retS Φ)
  have hkd : 3 + c % 3 = 3 ∨ 3 + c % 3 = 4 ∨ 3 + c % 3 = 5 := by omega
  have rest : ∀ nD cD vD, isObj nD = false → isObj cD = false → isObj vD = false → vcSs S ⟨retX X, none⟩ (p_law_deed.drop 8) (envD t p c made (3 + c % 3) (c / 6) nD cD vD none none none) σ (retS Φ) := fun nD cD vD h1 h2 h3 =>
    deed_rest h21 h27 h28 h29 hkd h1 h2 h3 I hT hw h
  have rest7 : ∀ nD vD (c0 : Int), isObj nD = false → isObj vD = false → vcSs S ⟨retX X, none⟩ (p_law_deed.drop 7) (envD t p c made (3 + c % 3) (c / 6) nD (.int c0) vD none none none) σ (retS Φ) := fun nD vD c0 h1 h3 => by
    conv => whnf
    refine ⟨by decide, ?_⟩
    conv => whnf
    refine and_decide (fun _ => ?_) (fun _ => ?_)
    · conv => whnf
      refine ⟨by decide, ?_⟩
      conv => whnf
      refine ⟨rfl, ?_⟩
      conv => whnf
      refine ⟨by decide, ?_⟩
      conv => whnf
      refine ⟨by decide, ?_⟩
      conv => whnf
      refine ⟨_, rfl, small_ok (by simp), .inl ⟨by omega, six' rfl (by simp [isObj]) (by omega) fun e he2 => ?_⟩⟩
      exact rest nD e vD h1 he2 h3
    · exact rest nD (.int c0) vD h1 rfl h3
  have rest6 : ∀ vD (n0 c0 : Int), isObj vD = false → vcSs S ⟨retX X, none⟩ (p_law_deed.drop 6) (envD t p c made (3 + c % 3) (c / 6) (.int n0) (.int c0) vD none none none) σ (retS Φ) := fun vD n0 c0 h3 => by
    conv => whnf
    refine ⟨by decide, ?_⟩
    conv => whnf
    refine and_decide (fun _ => ?_) (fun _ => ?_)
    · conv => whnf
      refine ⟨by decide, ?_⟩
      conv => whnf
      refine ⟨by decide, ?_⟩
      conv => whnf
      refine ⟨rfl, ?_⟩
      conv => whnf
      refine ⟨by decide, ?_⟩
      conv => whnf
      refine ⟨by decide, ?_⟩
      conv => whnf
      refine ⟨_, rfl, small_ok (by simp), .inl ⟨by omega, six' rfl (by simp [isObj]) (by omega) fun e he2 => ?_⟩⟩
      exact rest7 e vD c0 he2 h3
    · exact rest7 (.int n0) vD c0 rfl h3
  conv => whnf
  refine ⟨by decide, ?_⟩
  conv => whnf
  refine and_decide (fun _ => ?_) (fun _ => ?_)
  · conv => whnf
    refine ⟨rfl, ?_⟩
    conv => whnf
    refine ⟨rfl, ?_⟩
    conv => whnf
    refine ⟨rfl, ?_⟩
    conv => whnf
    refine ⟨by decide, ?_⟩
    conv => whnf
    refine ⟨by decide, ?_⟩
    conv => whnf
    refine ⟨_, rfl, small_ok (by simp), .inl ⟨by omega, six' rfl (by simp [isObj]) (by omega) fun e he2 => ?_⟩⟩
    exact rest6 e _ _ he2
  · exact rest6 (.int v0) _ _ rfl
end Mine.L07
end
section
open PySem PyProof.Rows
set_option Elab.async false
set_option maxRecDepth 20000
set_option linter.unusedVariables false
namespace Mine.L07

noncomputable abbrev envL (sc : List Int) (t p : Addr) (made : Int) (o4 o5 o6 o7 o8 o9 o10 : Option D) : PEnv := [some (dI sc), some (.obj t), some (.obj p), some (.int made), o4, o5, o6, o7, o8, o9, o10]
noncomputable def loopB : List PS := match p_law.drop 3 with
  | .loop _ _ _ b _ :: _ => b
  | _ => []
noncomputable def thenB : List PS := match loopB with
  | .ite _ b _ _ :: _ => b
  | _ => []

theorem LR.but {σ σ' : Store} {q : Addr} (hk : ∀ a xs, a ≠ q → σ a = some (.mlist xs) → σ' a = some (.mlist xs)) : ∀ {kvs : List (Int × D)} {T : Tab}, (∀ x ∈ kvs, x.2 ≠ .obj q) → LR σ kvs T → LR σ' kvs T
  | [], [], _, _ => trivial
  | (k, v) :: r, (j, x) :: t, hn, ⟨h1, h2, h3⟩ => by
    refine ⟨h1, ?_, LR.but hk (fun y hy => hn y (List.mem_cons_of_mem _ hy)) h3⟩
    have := Seq.keep h2
    cases v with
    | obj a => exact asL_ent (hk a _ (fun e => hn _ List.mem_cons_self (by rw [e])) this)
    | _ => exact h2
  | [], _ :: _, _, h => h.elim
  | _ :: _, [], _, h => h.elim
theorem LR.not {σ : Store} {q : Addr} (hq : σ q = none) : ∀ {kvs : List (Int × D)} {T : Tab}, LR σ kvs T → ∀ x ∈ kvs, x.2 ≠ .obj q
  | [], [], _, x, hx => by cases hx
  | (k, v) :: r, (j, y) :: t, ⟨h1, h2, h3⟩, x, hx => by
    rcases List.mem_cons.mp hx with rfl | hx
    · intro e
      simp only at e
      rw [e] at h2
      simp [asL, hq] at h2
    · exact LR.not hq h3 x hx
  | [], _ :: _, h, _, _ => h.elim
  | _ :: _, [], h, _, _ => h.elim
theorem putK_not {q : Addr} {n : Int} {v : D} (hv : v ≠ .obj q) : ∀ (kvs : List (Int × D)), (∀ x ∈ kvs, x.2 ≠ .obj q) → ∀ x ∈ putK n v kvs, x.2 ≠ .obj q
  | [], _, x, hx => by simp only [putK, List.mem_singleton] at hx; rw [hx]; exact hv
  | (j, y) :: r, h, x, hx => by
    simp only [putK] at hx
    split at hx
    · rcases List.mem_cons.mp hx with rfl | hx
      · exact hv
      · exact h x (List.mem_cons_of_mem _ hx)
    · rcases List.mem_cons.mp hx with rfl | hx
      · exact h _ List.mem_cons_self
      · exact putK_not hv r (fun z hz => h z (List.mem_cons_of_mem _ hz)) x hx
theorem inv_put {σ : Store} {t p dx d : Addr} {w made : Nat} {T : Tab} {row : List Int} {kvs : List (Int × D)} (ht : TabAt σ t w (putA made row T) (made + 1) dx d) (hp : σ p = some (.mdict kvs)) (hL : LR σ kvs T) (hr : ∀ x ∈ T, x.2.length = w) (hrow : row.length = w) (hne : p ≠ d) :
    Inv (σ.set p (.mdict (putK made (dI row) kvs))) t p w (putA made row T) (made + 1) dx d := by
  have pt : t ≠ p := fun q => by have := ht.obj; rw [q, hp] at this; cases this
  refine ⟨⟨?_, ?_⟩, ⟨_, set_at _ _ _, (hL.mono (ml_set hp (by intro xs q; cases q))).put made rfl⟩, putA_all (P := fun x => x.length = w) _ _ hrow T hr, hne⟩
  · rw [set_ne pt]; exact ht.obj
  · rw [set_ne hne.symm]; exact ht.dic

section
variable {S : Nat → Spec} {σ : Store} {Ψ : Res → Prop} {X : Addr → Store → Prop} {sc : List Int} {t p dx d q : Addr} {w made : Nat} {T : Tab} {c : Int} {row : List Int}

/-- the last three rows: the number is as foretold -/
theorem put_tail (h21 : S 21 = S_whole) {o6 : Option D} {kvs : List (Int × D)} (ht : TabAt σ t w (putA made row T) (made + 1) dx d) (hp : σ p = some (.mdict kvs)) (hL : LR σ kvs T) (hr : ∀ x ∈ T, x.2.length = w) (hrow : row.length = w) (hne : p ≠ d) (hT : T.length ≤ 198)
    (h : ∀ σ', Inv σ' t p w (putA made row T) (made + 1) dx d → Ψ (.next (envL sc t p ((made : Int) + 1) (some (.int c)) (some (dI row)) o6 (some (.int made)) none none none) σ')) :
    vcSs S ⟨retX X, none⟩ (thenB.drop 4) (envL sc t p made (some (.int c)) (some (dI row)) o6 (some (.int made)) none none none) σ Ψ := by
  have hl := hL.len
  conv => whnf
  refine .inr ⟨p, kvs, rfl, hp, small_ok (by omega), ?_⟩
  conv => whnf
  rw [h21]
  refine ⟨_, rfl, rfl, ?_⟩
  conv => whnf
  refine kF rfl ?_
  conv => whnf
  refine kF (by simp) ?_
  conv => whnf
  refine kF rfl ?_
  exact h _ (inv_put ht hp hL hr hrow hne)

/-- put once more, as a list -/
theorem put_more (h21 : S 21 = S_whole) (h34 : S 34 = S_put) {kvs : List (Int × D)} (ht : TabAt σ t w (putA made row T) (made + 1) dx d) (hp : σ p = some (.mdict kvs)) (hL : LR σ kvs T) (hq : σ q = some (.mlist (row.map D.int))) (hqn : ∀ x ∈ kvs, x.2 ≠ .obj q) (hr : ∀ x ∈ T, x.2.length = w) (hrow : row.length = w) (hne : p ≠ d) (hT : T.length ≤ 197) (hw1 : 1 ≤ w) (hw : w ≤ 6)
    (h : ∀ σ' T' o6 o7, Inv σ' t p w T' (made + 1 + 1) dx d → T'.length ≤ 199 → Ψ (.next (envL sc t p ((made : Int) + 1 + 1) (some (.int c)) (some (dI row)) o6 o7 none none none) σ')) (hev : c % 2 = 0) :
    vcSs S ⟨retX X, none⟩ (thenB.drop 3) (envL sc t p made (some (.int c)) (some (dI row)) (some (.obj q)) (some (.int made)) none none none) σ Ψ := by
  have hl := hL.len
  conv => whnf
  refine ⟨by decide, ?_⟩
  conv => whnf
  refine kT (decide_eq_true hev) ?_
  conv => whnf
  refine .inr ⟨p, kvs, rfl, hp, small_ok (by omega), ?_⟩
  have I := inv_put ht hp hL hr hrow hne
  have qp : q ≠ p := fun e => by rw [e, hp] at hq; cases hq
  have hq' : (σ.set p (.mdict (putK made (dI row) kvs))) q = some (.mlist (row.map D.int)) := by rw [set_ne qp]; exact hq
  have hp' := set_at σ p (.mdict (putK made (dI row) kvs))
  generalize σ.set p (.mdict (putK made (dI row) kvs)) = σ₃ at I hq' hp' ⊢
  conv => whnf
  rw [h21]
  refine ⟨_, rfl, rfl, ?_⟩
  conv => whnf
  refine kF rfl ?_
  conv => whnf
  refine kF (by simp) ?_
  conv => whnf
  refine kF rfl ?_
  conv => whnf
  refine ⟨⟨t, dx, _, rfl, I.tab.obj, no_f _ _ _ (by decide) (by decide) (by decide) (by decide)⟩, ?_⟩
  conv => whnf
  rw [h34]
  have hl2 := putA_len made row T
  refine ⟨t, .obj q, row, w, _, _, dx, d, rfl, I.tab, ⟨asL_ent hq', by simp [ltS, hq']⟩, hrow, hw, by omega, fun σ₄ ht₄ hk₄ => ?_⟩
  have qt : q ≠ t := fun e => by rw [e, I.tab.obj] at hq'; cases hq'
  have qd : q ≠ d := fun e => by rw [e, I.tab.dic] at hq'; cases hq'
  have hq₄ : σ₄ q = some (.mlist (row.map D.int)) := by rw [hk₄ q qt qd]; exact hq'
  have hr0 : 0 < row.length := by omega
  conv => whnf
  refine ⟨_, asL_ent hq₄, small_ok (by simp; omega), .inl ⟨by decide, _, get_map_int (k := 0) hr0, ?_⟩⟩
  conv => whnf
  refine .inl ⟨q, _, rfl, hq₄, by decide, by simp; omega, small_ok (by simp; omega), ?_⟩
  obtain ⟨kvs', e1, hL₃⟩ := I.there
  rw [hp'] at e1; cases e1
  have pt : p ≠ t := I.pt
  refine put_tail (made := made + 1) (T := putA made row T) h21 ⟨?_, ?_⟩ (?_ : _ = some (MObj.mdict (putK made (dI row) kvs))) ?_ I.rows hrow hne (by omega) fun σ' I' => h σ' _ _ _ I' (by have := putA_len ((made + 1 : Nat) : Int) row (putA made row T); omega)
  · rw [set_ne qt.symm]; exact ht₄.obj
  · rw [set_ne qd.symm]; exact ht₄.dic
  · rw [set_ne qp.symm, hk₄ p pt hne]; exact hp'
  · refine hL₃.but (q := q) (fun a xs ha e => ?_) (putK_not (by intro e; cases e) kvs hqn)
    rw [set_ne ha, hk₄ a (fun e' => by rw [e', I.tab.obj] at e; cases e) (fun e' => by rw [e', I.tab.dic] at e; cases e)]
    exact e
/-- one turn: rows are put -/
theorem turn_put (h21 : S 21 = S_whole) (h32 : S 32 = S_at) (h33 : S 33 = S_row) (h34 : S 34 = S_put) {B : Nat} {o5 o6 o7 : Option D} (I : Inv σ t p w T made dx d) (hT : T.length ≤ 197) (hw1 : 1 ≤ w) (hw : w ≤ 6) (hsc : sc.length ≤ 1000) (hws : 1 + sc.getD (0 : Int).toNat 0 % 6 = (w : Int)) (hB : Bt B c) (hB2 : B ≤ 2000000)
    (h : ∀ σ' T' (made' : Nat) o5 o6 o7, Inv σ' t p w T' made' dx d → T'.length ≤ 199 → Ψ (.next (envL sc t p made' (some (.int c)) o5 o6 o7 none none none) σ')) :
    vcSs S ⟨retX X, none⟩ thenB (envL sc t p made (some (.int c)) o5 o6 o7 none none none) σ Ψ := by
  obtain ⟨kvs, hp, hL⟩ := I.there
  conv => whnf
  refine ⟨by decide, ?_⟩
  conv => whnf
  rw [h32]
  refine ⟨sc, 0, rfl, hsc, by decide, ?_⟩
  conv => whnf
  refine ⟨by decide, ?_⟩
  conv => whnf
  rw [h33, hws]
  refine ⟨c / 6, w, B, rfl, hw, bt_div hB, hB2, fun row hrow => ?_⟩
  show vcSs S ⟨retX X, none⟩ (thenB.drop 1) (envL sc t p made (some (.int c)) (some (dI row)) o6 o7 none none none) σ Ψ
  conv => whnf
  refine ⟨_, rfl, small_ok (by simp; omega), ?_⟩
  intro q hf
  have hp₁ : (σ.set q (.mlist (row.map D.int))) p = some (.mdict kvs) := by rw [set_ne fun e => ?_]; exact hp; have := hf.1; rw [← e, hp] at this; cases this
  have qt : t ≠ q := fun e => by have := hf.1; rw [← e, I.tab.obj] at this; cases this
  have qd : d ≠ q := fun e => by have := hf.1; rw [← e, I.tab.dic] at this; cases this
  have ht₁ : TabAt (σ.set q (.mlist (row.map D.int))) t w T made dx d := ⟨by rw [set_ne qt]; exact I.tab.obj, by rw [set_ne qd]; exact I.tab.dic⟩
  have hL₁ : LR (σ.set q (.mlist (row.map D.int))) kvs T := hL.mono fun a xs e => by
    rw [set_ne fun e' => ?_]; exact e
    rw [e', hf.1] at e; cases e
  have hq₁ := set_at σ q (.mlist (row.map D.int))
  have hqn := hL.not hf.1
  show vcSs S ⟨retX X, none⟩ (thenB.drop 2) (envL sc t p made (some (.int c)) (some (dI row)) (some (.obj q)) o7 none none none) (σ.set q (.mlist (row.map D.int))) Ψ
  generalize σ.set q (.mlist (row.map D.int)) = σ₁ at hp₁ ht₁ hL₁ hq₁ ⊢
  conv => whnf
  refine ⟨⟨t, dx, _, rfl, ht₁.obj, no_f _ _ _ (by decide) (by decide) (by decide) (by decide)⟩, ?_⟩
  conv => whnf
  refine ⟨_, rfl, small_ok (by simp; omega), ?_⟩
  conv => whnf
  rw [h34]
  refine ⟨t, tI row, row, w, T, made, dx, d, rfl, ht₁, ⟨rfl, rfl⟩, hrow, hw, by omega, fun σ₂ ht₂ hk₂ => ?_⟩
  have hp₂ : σ₂ p = some (.mdict kvs) := by rw [hk₂ p I.pt I.ne]; exact hp₁
  have hL₂ : LR σ₂ kvs T := hL₁.mono fun a xs e => by
    rw [hk₂ a (fun e' => by rw [e', ht₁.obj] at e; cases e) (fun e' => by rw [e', ht₁.dic] at e; cases e)]; exact e
  have hq₂ : σ₂ q = some (.mlist (row.map D.int)) := by rw [hk₂ q qt.symm qd.symm]; exact hq₁
  show vcSs S ⟨retX X, none⟩ (thenB.drop 3) (envL sc t p made (some (.int c)) (some (dI row)) (some (.obj q)) (some (.int made)) none none none) σ₂ Ψ
  by_cases hev : c % 2 = 0
  · exact put_more h21 h34 ht₂ hp₂ hL₂ hq₂ hqn I.rows hrow I.ne hT hw1 hw (fun σ' T' o6 o7 I' hl => h σ' T' (made + 1 + 1) _ o6 o7 I' hl) hev
  · conv => whnf
    refine ⟨by decide, ?_⟩
    conv => whnf
    refine kF (decide_eq_false hev) ?_
    exact put_tail h21 ht₂ hp₂ hL₂ I.rows hrow I.ne (by omega) fun σ' I' => h σ' _ (made + 1) _ _ _ I' (by have := putA_len (made : Int) row T; omega)

/-- one turn -/
theorem turn (h21 : S 21 = S_whole) (h32 : S 32 = S_at) (h33 : S 33 = S_row) (h34 : S 34 = S_put) (h35 : S 35 = S_deed) {B : Nat} {o5 o6 o7 : Option D} (I : Inv σ t p w T made dx d) (hT : T.length ≤ 199) (hw1 : 1 ≤ w) (hw : w ≤ 6) (hsc : sc.length ≤ 1000) (hws : 1 + sc.getD (0 : Int).toNat 0 % 6 = (w : Int)) (hB : Bt B c) (hB2 : B ≤ 2000000)
    (h : ∀ σ' T' (made' : Nat) o5 o6 o7, Inv σ' t p w T' made' dx d → T'.length ≤ 199 → Ψ (.next (envL sc t p made' (some (.int c)) o5 o6 o7 none none none) σ')) :
    vcSs S ⟨retX X, none⟩ loopB (envL sc t p made (some (.int c)) o5 o6 o7 none none none) σ Ψ := by
  obtain ⟨kvs, hp, hL⟩ := I.there
  have hl := hL.len
  have deed : ∀ Ψ : Res → Prop, (∀ σ' T' (made' : Nat) o5 o6 o7, Inv σ' t p w T' made' dx d → T'.length ≤ 199 → Ψ (.next (envL sc t p made' (some (.int c)) o5 o6 o7 none none none) σ')) →
      vcSs S ⟨retX X, none⟩ (match loopB with | .ite _ _ b _ :: _ => b | _ => []) (envL sc t p made (some (.int c)) o5 o6 o7 none none none) σ Ψ := fun Ψ h => by
    conv => whnf
    rw [h35]
    refine ⟨t, p, w, T, made, dx, d, c, B, rfl, I, hT, hw, hB, hB2, fun T' σ' I' hl' => ?_⟩
    conv => whnf
    refine kF rfl ?_
    exact h σ' T' made _ _ _ I' hl'
  conv => whnf
  refine ⟨by decide, ?_⟩
  conv => whnf
  by_cases h1 : c % 6 < 3
  · refine kT' (decide_eq_true h1) ?_
    conv => whnf
    refine ⟨p, kvs, rfl, hp, small_ok (by omega), ?_⟩
    conv => whnf
    by_cases h2 : (kvs.length : Int) < 198
    · refine kT' (decide_eq_true h2) ?_
      conv => whnf
      refine kT rfl ?_
      exact turn_put h21 h32 h33 h34 I (by omega) hw1 hw hsc hws hB hB2 h
    · refine kF' (decide_eq_false h2) ?_
      conv => whnf
      refine kF rfl ?_
      exact deed _ h
  · refine kF' (decide_eq_false h1) ?_
    conv => whnf
    refine kF rfl ?_
    exact deed _ h
end
end Mine.L07
end
section
open PySem PyProof.Rows
set_option Elab.async false
set_option maxRecDepth 20000
set_option linter.unusedVariables false
namespace Mine.L07

noncomputable def S07 : Nat → Spec
  | 3 => S_whole
  | 14 => S_need
  | 16 => S_hascol
  | 20 => S_value
  | 21 => S_whole
  | 22 => S_drop
  | 23 => S_change
  | 24 => S_trow
  | 27 => S_said
  | 28 => S_any
  | 29 => S_same
  | 30 => S_init
  | 32 => S_at
  | 33 => S_row
  | 34 => S_put
  | 35 => S_deed
  | 36 => S_nums
  | _ => fun _ _ _ _ => False

section
variable {S : Nat → Spec} {σ : Store} {Φ : D → Store → Prop} {X : Addr → Store → Prop} {sc : List Int} {t p dx d : Addr} {w made : Nat} {T : Tab} {o4 o5 o6 o7 : Option D}

theorem eqP_ent {σ : Store} {a : Addr} {xs : List D} (h : σ a = some (.mlist xs)) : eqP σ (.obj a) = eqP σ (.list xs) := by
  show (match σ a with | some (.mlist xs) => (D.pys xs).map PyData.list | _ => none) = _
  rw [h]; rfl

/-- the end: the numbers, then the rows -/
theorem law_end (h21 : S 21 = S_whole) (h24 : S 24 = S_trow) (h29 : S 29 = S_same) (h32 : S 32 = S_at) (h36 : S 36 = S_nums) (I : Inv σ t p w T made dx d) (hT : T.length ≤ 199) (hw : w ≤ 6) (hsc : sc.length ≤ 1000) (hws : 1 + sc.getD (0 : Int).toNat 0 % 6 = (w : Int)) (h : ∀ σ', Φ (.bool true) σ') :
    vcSs S ⟨retX X, none⟩ (p_law.drop 4) (envL sc t p made o4 o5 o6 o7 none none none) σ (retS Φ) := by
  conv => whnf
  refine ⟨⟨t, dx, _, rfl, I.tab.obj, no_f _ _ _ (by decide) (by decide) (by decide) (by decide)⟩, ?_⟩
  conv => whnf
  rw [h36]
  refine ⟨t, w, T, made, dx, d, rfl, I.tab, by omega, fun a ms hf hp1 hs1 => ?_⟩
  show vcSs S ⟨retX X, none⟩ (p_law.drop 5) (envL sc t p made o4 o5 o6 o7 (some (.obj a)) none none) _ (retS Φ)
  have keep : ∀ {σ : Store} {a : Addr} {m : MObj}, Inv σ t p w T made dx d → freshIn σ a → Inv (σ.set a m) t p w T made dx d := fun {σ a m} I hf => by
    obtain ⟨kvs, hp, hL⟩ := I.there
    have n1 : t ≠ a := fun e => by have := hf.1; rw [← e, I.tab.obj] at this; cases this
    have n2 : d ≠ a := fun e => by have := hf.1; rw [← e, I.tab.dic] at this; cases this
    have n3 : p ≠ a := fun e => by have := hf.1; rw [← e, hp] at this; cases this
    refine ⟨⟨by rw [set_ne n1]; exact I.tab.obj, by rw [set_ne n2]; exact I.tab.dic⟩, ⟨kvs, by rw [set_ne n3]; exact hp, hL.mono fun b xs e => ?_⟩, I.rows, I.ne⟩
    rw [set_ne fun e' => ?_]; exact e
    rw [e', hf.1] at e; cases e
  have hl1 : ms.length = T.length := by have := hp1.length_eq; simpa using this
  conv => whnf
  refine ⟨⟨_, set_at _ _ _⟩, ?_⟩
  conv => whnf
  refine ⟨_, set_at _ _ _, small_ok (by simp; omega), ?_⟩
  rw [set_set]
  have I₁ : Inv (σ.set a (.mlist (ms.map D.int ++ [.int (0 - 1)]))) t p w T made dx d := keep I hf
  have ha₁ := set_at σ a (.mlist (ms.map D.int ++ [.int (0 - 1)]))
  show vcSs S ⟨retX X, none⟩ (p_law.drop 6) (envL sc t p made o4 o5 o6 o7 (some (.obj a)) none none) (σ.set a (.mlist (ms.map D.int ++ [.int (0 - 1)]))) (retS Φ)
  generalize σ.set a (.mlist (ms.map D.int ++ [.int (0 - 1)])) = σ₁ at I₁ ha₁ ⊢
  conv => whnf
  refine ⟨⟨t, dx, _, rfl, I₁.tab.obj, no_f _ _ _ (by decide) (by decide) (by decide) (by decide)⟩, ?_⟩
  conv => whnf
  rw [h36]
  refine ⟨t, w, T, made, dx, d, rfl, I₁.tab, by omega, fun b ns hfb hp2 hs2 => ?_⟩
  have hl2 : ns.length = T.length := by have := hp2.length_eq; simpa using this
  have I₂ : Inv (σ₁.set b (.mlist (ns.map D.int))) t p w T made dx d := keep I₁ hfb
  have hb₂ := set_at σ₁ b (.mlist (ns.map D.int))
  have ha₂ : (σ₁.set b (.mlist (ns.map D.int))) a = some (.mlist (ms.map D.int ++ [.int (0 - 1)])) := by
    rw [set_ne fun e => ?_]; exact ha₁
    rw [e, hfb.1] at ha₁; cases ha₁
  show vcSs S ⟨retX X, none⟩ (p_law.drop 7) (envL sc t p made o4 o5 o6 o7 (some (.obj a)) (some (.obj b)) none) (σ₁.set b (.mlist (ns.map D.int))) (retS Φ)
  generalize σ₁.set b (.mlist (ns.map D.int)) = σ₂ at I₂ hb₂ ha₂ ⊢
  obtain ⟨kvs, hp, hL⟩ := I₂.there
  have hl := hL.len
  conv => whnf
  refine ⟨_, asL_ent ha₂, small_ok (by simp; omega), ?_⟩
  conv => whnf
  refine ⟨_, asL_ent hb₂, small_ok (by simp; omega), ?_⟩
  conv => whnf
  refine kF (by simp; omega) ?_
  conv => whnf
  refine ⟨true, by simp [tyS, hb₂, TY.isL], ?_⟩
  conv => whnf
  refine kF rfl ?_
  conv => whnf
  refine ⟨p, kvs, ns, rfl, hp, small_ok (by omega), by rw [hL.keys]; exact hp2, hs2, ?_⟩
  obtain ⟨x, ex, hx1, hx2⟩ := pl1 σ₂ (a := dI ns) (pl_ints ns)
  conv => whnf
  refine ⟨x, x, (eqP_ent hb₂).trans ex, ex, hx1, hx1, ?_⟩
  conv => whnf
  refine kF (by rw [hx2]; rfl) ?_
  conv => whnf
  refine ⟨t, dx, _, _, rfl, I₂.tab.obj, width_f _ _ _, ?_⟩
  conv => whnf
  rw [h32]
  refine ⟨sc, 0, rfl, hsc, by decide, ?_⟩
  conv => whnf
  refine ⟨by decide, ?_⟩
  conv => whnf
  refine kF (by rw [hws]; simp) ?_
  conv => whnf
  refine kF rfl ?_
  conv => whnf
  refine ⟨_, asL_ent hb₂, ?_⟩
  refine forS_inv (fun k ρ σ' => σ' = σ₂ ∧ ∃ o, ρ = envL sc t p made o4 o5 o6 o7 (some (.obj a)) (some (.obj b)) o) ?_ ?_ ?_ ⟨rfl, none, rfl⟩
  · rintro k ρ σ' ⟨rfl, _⟩
    exact hb₂
  · rintro k e ρ σ' K hd ⟨rfl, o, rfl⟩ hK
    rw [List.getElem?_map] at hd
    cases q : ns[k]? with
    | none => rw [q] at hd; cases hd
    | some n =>
      rw [q] at hd
      cases hd
      obtain ⟨row, hrow⟩ := getA_key n T (hp2.mem_iff.mp (List.mem_of_getElem? q))
      obtain ⟨v, hv1, hv2⟩ := hL.get n hrow
      have hrl : row.length = w := I₂.rows _ (getA_mem n T hrow)
      conv => whnf
      rw [h21]
      refine ⟨_, rfl, rfl, ?_⟩
      conv => whnf
      refine kF rfl ?_
      conv => whnf
      refine ⟨⟨t, dx, _, rfl, I₂.tab.obj, no_f _ _ _ (by decide) (by decide) (by decide) (by decide)⟩, ?_⟩
      conv => whnf
      rw [h24]
      refine ⟨t, .int n, w, T, made, dx, d, rfl, rfl, I₂.tab, fun q' => (by rw [show hasN (.int n) T = some row from hrow] at q'; cases q'), fun row' q' => ?_⟩
      rw [show hasN (.int n) T = some row from hrow] at q'
      cases q'
      conv => whnf
      refine ⟨p, kvs, n, v, rfl, hp, rfl, hv1, ?_⟩
      conv => whnf
      rw [h29]
      refine ⟨row, v, rfl, hv2, by omega, ?_⟩
      conv => whnf
      refine kF rfl ?_
      conv => whnf
      refine kF rfl ?_
      exact hK _ _ ⟨rfl, _, rfl⟩
  · rintro ρ σ' ⟨rfl, o, rfl⟩
    exact retS_ret (h _)
end

noncomputable def S_law : Spec := fun ds σ Φ _ => ∃ sc B, ds = [dI sc] ∧ sc.length ≤ 300 ∧ (∀ c ∈ sc, Bt B c) ∧ B ≤ 1800000 ∧ ∀ σ', Φ (.bool true) σ'
theorem law_go (S : Nat → Spec) (h21 : S 21 = S_whole) (h24 : S 24 = S_trow) (h29 : S 29 = S_same) (h30 : S 30 = S_init) (h32 : S 32 = S_at) (h33 : S 33 = S_row) (h34 : S 34 = S_put) (h35 : S 35 = S_deed) (h36 : S 36 = S_nums) (ds : List D) (σ : Store) (Φ : D → Store → Prop) (X : Addr → Store → Prop) (h : S_law ds σ Φ X) : ds.length = [0].length ∧ vcSs S ⟨retX X, none⟩ p_law (initE [0] ds 11) σ (retS Φ) := by
  obtain ⟨sc, B, rfl, hsc, hB, hB2, h⟩ := h
  refine ⟨rfl, ?_⟩
  show vcSs S ⟨retX X, none⟩ p_law [some (dI sc), none, none, none, none, none, none, none, none, none, none] σ (retS Φ)
  conv => whnf
  conv => whnf
  rw [h32]
  refine ⟨sc, 0, rfl, by omega, by decide, ?_⟩
  conv => whnf
  refine ⟨by decide, ?_⟩
  conv => whnf
  intro t dx hft hfd hne
  obtain ⟨w, hws, hw1, hw⟩ : ∃ w : Nat, 1 + sc.getD (0 : Int).toNat 0 % 6 = (w : Int) ∧ 1 ≤ w ∧ w ≤ 6 := ⟨(1 + sc.getD (0 : Int).toNat 0 % 6).toNat, by omega, by omega, by omega⟩
  conv => whnf
  rw [h30]
  rw [hws]
  refine ⟨t, dx, w, rfl, hw1, hw, set_at _ _ _, fun d σ₁ ht₁ hk₁ => ⟨rfl, ?_⟩⟩
  show vcSs S ⟨retX X, none⟩ (p_law.drop 1) [some (dI sc), some (.obj t), none, none, none, none, none, none, none, none, none] σ₁ (retS Φ)
  conv => whnf
  intro p hfp
  have np : ∀ {a m}, σ₁ a = some m → a ≠ p := fun {a m} e q => by have := hfp.1; rw [← q, e] at this; cases this
  have I₁ : Inv (σ₁.set p (.mdict [])) t p w [] 0 dx d := ⟨⟨by rw [set_ne (np ht₁.obj)]; exact ht₁.obj, by rw [set_ne (np ht₁.dic)]; exact ht₁.dic⟩, ⟨[], set_at _ _ _, trivial⟩, (by intro x hx; cases hx), (np ht₁.dic).symm⟩
  show vcSs S ⟨retX X, none⟩ (p_law.drop 3) (envL sc t p 0 none none none none none none none) (σ₁.set p (.mdict [])) (retS Φ)
  generalize σ₁.set p (.mdict []) = σ₂ at I₁ ⊢
  conv => whnf
  refine ⟨_, _, _, rfl, rfl, rfl, small_ok (by simp; omega), ?_⟩
  conv => whnf
  refine ⟨_, rfl, ?_⟩
  obtain ⟨dd, hdd, hdB⟩ : ∃ dd : List Int, sliceD (sc.map D.int) (some 1) none = dd.map D.int ∧ ∀ c ∈ dd, Bt B c := by
    refine ⟨sc.drop (clipAt sc.length 1), ?_, fun c hc => hB c (List.mem_of_mem_drop hc)⟩
    unfold sliceD
    simp only [Option.elim, List.length_map]
    rw [List.map_drop, List.take_of_length_le (by simp)]
  rw [hdd]
  refine forS_inv (fun k ρ σ' => ∃ (T : Tab) (made : Nat) (o4 o5 o6 o7 : Option D), Inv σ' t p w T made dx d ∧ T.length ≤ 199 ∧ ρ = envL sc t p made o4 o5 o6 o7 none none none) (fun _ _ _ _ => trivial) ?_ ?_ ⟨[], 0, none, none, none, none, I₁, by simp, rfl⟩
  · rintro k e ρ σ' K hd ⟨T, made, o4, o5, o6, o7, I, hT, rfl⟩ hK
    rw [List.getElem?_map] at hd
    cases q : dd[k]? with
    | none => rw [q] at hd; cases hd
    | some c =>
      rw [q] at hd
      cases hd
      exact turn h21 h32 h33 h34 h35 I hT hw1 hw (by omega) hws (hdB c (List.mem_of_getElem? q)) (by omega) fun σ'' T' made' o5 o6 o7 I' hl => hK _ _ ⟨T', made', _, o5, o6, o7, I', hl, rfl⟩
  · rintro ρ σ' ⟨T, made, o4, o5, o6, o7, I, hT, rfl⟩
    exact law_end h21 h24 h29 h32 h36 I hT hw (by omega) hws h
theorem law_vc (ds : List D) (σ : Store) (Φ : D → Store → Prop) (X : Addr → Store → Prop) (h : S_law ds σ Φ X) : ds.length = [0].length ∧ vcSs S07 ⟨retX X, none⟩ p_law (initE [0] ds 11) σ (retS Φ) := law_go S07 rfl rfl rfl rfl rfl rfl rfl rfl rfl ds σ Φ X h
end Mine.L07
end
section
open PySem PySem.W PySem.Calls PyProof.Rows
set_option maxRecDepth 100000
namespace Mine

noncomputable def topG (thr : Thread → Bool) (ok : Thread → Bool) (st : SharedT → Thread → Option (SharedT × Thread)) (M : Nat) : SharedT → Thread → Option SharedT :=
  @Nat.rec (fun _ => SharedT → Thread → Option SharedT) (fun _ _ => none)
    (fun _ ih s t => @Bool.rec (fun _ => Option SharedT) (@Bool.rec (fun _ => Option SharedT) none ((st s t).bind fun r => ih r.1 r.2) (ok t)) (some s) (thr t)) M

theorem topG_of {tb : String → Option Builtin} {p : Program} {w : World} {n₀ : Nat} {ann : Option Value} : ∀ {n : Nat} {s s' : SharedT} {t : Thread},
    topG through (stepOk n₀ ann) (stepT (denote tb) p w) n s t = some s' → topRun tb p w n₀ ann n s.abs t = some s'.abs
  | 0, _, _, _, h => by cases h
  | n + 1, s, s', t, h => by
    have h' : @Bool.rec (fun _ => Option SharedT) (@Bool.rec (fun _ => Option SharedT) none ((stepT (denote tb) p w s t).bind fun r => topG through (stepOk n₀ ann) (stepT (denote tb) p w) n r.1 r.2) (stepOk n₀ ann t)) (some s) (through t) = some s' := h
    unfold topRun
    cases ht : through t with
    | true => rw [ht] at h'; exact congrArg (Option.map SharedT.abs) h'
    | false =>
      rw [ht] at h'
      cases hk : stepOk n₀ ann t with
      | false => rw [hk] at h'; cases h'
      | true =>
        rw [hk] at h'
        obtain ⟨⟨s₂, t₂⟩, hs, hr⟩ := Option.bind_eq_some_iff.mp h'
        show (match step (denote tb) p w s.abs t with | .go s' t' => topRun tb p w n₀ ann n s' t' | .halt _ _ => none) = _
        rw [stepT_spec hs]
        exact topG_of hr

/-- the law's head from one run over a tree, with no snapshot written out -/
theorem left_of_tree {p q : Program} {loose : List Str} {Xt : Shared → Bool} {α : Type} {Yf : Shared → α} {Ya : World → α} {N : Nat} {g0 : Bool} {T₀ : Params → BT} {m₀ M : Nat} {li : Life} {ann : Option Value}
    (e : opening p = plainProg p.main.scope.names) (hN : Nat.ble 600 N = true) (f : ∀ s, fenceModules? p s = some s) (t0 : ∀ P, absHeap (T₀ P) m₀ li = boot_heap P)
    (size : ∀ P, ((boot_heap P).isNs mainGlobals, (boot_heap P).objs.size, (boot_heap P).nsMap mainGlobals "__annotations__") = (true, m₀, ann)) (le : Nat.ble M N = true)
    (run : ∀ w : World, (fun os => (topG through (stepOk m₀ ann) (stepT (denote treeTable) p w) M ⟨T₀ w.params, m₀, li, Array.mk [], boot_drawn, boot_toks, os⟩ (topStub p)).map (fun s =>
        ((staticsOk (importedModules p.main.body) (boot_heap w.params) s.abs.heap && namesBound p s.abs.heap && gensDone s.abs && laidKept (boot_heap w.params) s.abs.heap),
          openSeen q loose (importedModules p.main.body) Xt g0 s.abs, Yf s.abs))) = fun _ => some (true, openGood q loose, Ya w)) : LeftO p q loose Xt Yf Ya N g0 := fun w => by
  obtain ⟨⟨h, gs, d, k, os⟩, e, e'⟩ := Option.map_eq_some_iff.mp (boot_open e hN f w)
  obtain ⟨rfl, rfl, rfl, rfl⟩ : h = boot_heap w.params ∧ gs = Array.mk [] ∧ d = boot_drawn ∧ k = boot_toks := by simpa using e'
  obtain ⟨z1, z2, z3⟩ : _ ∧ _ ∧ _ := by simpa only [Prod.mk.injEq] using size w.params
  obtain ⟨s, hs, l⟩ := Option.map_eq_some_iff.mp (congrFun (run w) os)
  obtain ⟨l1, l2, l3⟩ : _ ∧ _ ∧ _ := by simpa only [Prod.mk.injEq] using l
  have r := topRun_mono (N - M) _ _ _ _ (topG_of hs)
  rw [show M + (N - M) = N by have := Nat.le_of_ble_eq_true le; omega] at r
  have ea : SharedT.abs ⟨T₀ w.params, m₀, li, Array.mk [], boot_drawn, boot_toks, os⟩ = ⟨boot_heap w.params, Array.mk [], boot_drawn, boot_toks, os⟩ := by unfold SharedT.abs; rw [t0]
  rw [ea] at r
  have t : topFrom treeTable p w N ⟨boot_heap w.params, Array.mk [], boot_drawn, boot_toks, os⟩ = some s.abs := by
    unfold topFrom
    dsimp only
    rw [z1, z2, z3, r]
    show (match staticsOk (importedModules p.main.body) (boot_heap w.params) s.abs.heap && namesBound p s.abs.heap && gensDone s.abs && laidKept (boot_heap w.params) s.abs.heap with | true => _ | false => _) = _
    rw [l1]
  unfold openEnds
  rw [e]
  show (topFrom treeTable p w N _).map _ = _
  rw [t]
  exact congrArg some (Prod.ext l2 l3)

/-- the statement at a path of the text, and the object of a def -/
noncomputable def sAt : List Stmt → List Nat → Stmt
  | ss, [i] => ss.getD i (.Pass default)
  | ss, i :: r => match ss.getD i (.Pass default) with
    | .ClassDef _ _ _ body .. => sAt body r
    | s => s
  | _, [] => .Pass default
noncomputable def fob (st : Stmt) (qn : Str) (doc mod code : Value) : Obj := match st with
  | .FunctionDef name args body _ _ _ scope _ _ _ => ⟨.type "function", none, .func ⟨name, qn, args, .stmts body, scope, 3, [], .none, .none, doc, mod, none, code, .none, 0⟩, #[]⟩
  | _ => default
end Mine
end
section
open PySem PySem.W PySem.Calls PyProof.Rows
set_option Elab.async false
namespace Mine.L07
set_option maxRecDepth 100000
set_option maxHeartbeats 8000000
set_option linter.unusedVariables false
noncomputable def o2 : Params → Obj := fun P => Obj.mk Value.none none (Data.dict #[]) #[]
noncomputable def o3 : Params → Obj := fun P => Obj.mk (Value.type "dict") none (Data.dict #[DictEntry.mk (PyData.keyHash P (Str.ofString "__name__")) (Value.str (Str.ofString "__name__") 165) (Value.str (Str.ofString "law_uf040016_07") 655), DictEntry.mk (PyData.keyHash P (Str.ofString "__doc__")) (Value.str (Str.ofString "__doc__") 166) Value.none, DictEntry.mk (PyData.keyHash P (Str.ofString "__package__")) (Value.str (Str.ofString "__package__") 167) Value.none, DictEntry.mk (PyData.keyHash P (Str.ofString "__loader__")) (Value.str (Str.ofString "__loader__") 168) (Value.builtin "__main__.__loader__#opaque"), DictEntry.mk (PyData.keyHash P (Str.ofString "__spec__")) (Value.str (Str.ofString "__spec__") 169) Value.none, DictEntry.mk (PyData.keyHash P (Str.ofString "__annotations__")) (Value.str (Str.ofString "__annotations__") 170) (Value.ref 6), DictEntry.mk (PyData.keyHash P (Str.ofString "__builtins__")) (Value.str (Str.ofString "__builtins__") 171) (Value.ref 4), DictEntry.mk (PyData.keyHash P (Str.ofString "__file__")) (Value.str (Str.ofString "__file__") 173) (Value.str (Str.ofString "/claim/cut.py") 172), DictEntry.mk (PyData.keyHash P (Str.ofString "__cached__")) (Value.str (Str.ofString "__cached__") 174) Value.none, DictEntry.mk (PyData.keyHash P (Str.ofString "_wall")) (Value.str (Str.ofString "_wall") 193) (Value.ref 21), DictEntry.mk (PyData.keyHash P (Str.ofString "BookError")) (Value.str (Str.ofString "BookError") 213) (Value.ref 31), DictEntry.mk (PyData.keyHash P (Str.ofString "BadWidth")) (Value.str (Str.ofString "BadWidth") 229) (Value.ref 44), DictEntry.mk (PyData.keyHash P (Str.ofString "BadRow")) (Value.str (Str.ofString "BadRow") 245) (Value.ref 56), DictEntry.mk (PyData.keyHash P (Str.ofString "Full")) (Value.str (Str.ofString "Full") 261) (Value.ref 68), DictEntry.mk (PyData.keyHash P (Str.ofString "NoRow")) (Value.str (Str.ofString "NoRow") 277) (Value.ref 80), DictEntry.mk (PyData.keyHash P (Str.ofString "BadColumn")) (Value.str (Str.ofString "BadColumn") 293) (Value.ref 92), DictEntry.mk (PyData.keyHash P (Str.ofString "BadOrder")) (Value.str (Str.ofString "BadOrder") 309) (Value.ref 104), DictEntry.mk (PyData.keyHash P (Str.ofString "is_whole")) (Value.str (Str.ofString "is_whole") 318) (Value.ref 113), DictEntry.mk (PyData.keyHash P (Str.ofString "less")) (Value.str (Str.ofString "less") 327) (Value.ref 120), DictEntry.mk (PyData.keyHash P (Str.ofString "below")) (Value.str (Str.ofString "below") 338) (Value.ref 127), DictEntry.mk (PyData.keyHash P (Str.ofString "Kept")) (Value.str (Str.ofString "Kept") 433) (Value.ref 196), DictEntry.mk (PyData.keyHash P (Str.ofString "MOST_WIDTH")) (Value.str (Str.ofString "MOST_WIDTH") 437) (Value.int 6 436), DictEntry.mk (PyData.keyHash P (Str.ofString "MOST_ROWS")) (Value.str (Str.ofString "MOST_ROWS") 439) (Value.int 200 438), DictEntry.mk (PyData.keyHash P (Str.ofString "MOST_ORDERS")) (Value.str (Str.ofString "MOST_ORDERS") 441) (Value.int 8 440), DictEntry.mk (PyData.keyHash P (Str.ofString "Table")) (Value.str (Str.ofString "Table") 654) (Value.ref 362), DictEntry.mk (PyData.keyHash P (Str.ofString "_law_whole")) (Value.str (Str.ofString "_law_whole") 663) (Value.ref 373), DictEntry.mk (PyData.keyHash P (Str.ofString "_law_at")) (Value.str (Str.ofString "_law_at") 671) (Value.ref 380), DictEntry.mk (PyData.keyHash P (Str.ofString "_law_value")) (Value.str (Str.ofString "_law_value") 678) (Value.ref 387), DictEntry.mk (PyData.keyHash P (Str.ofString "_law_row")) (Value.str (Str.ofString "_law_row") 684) (Value.ref 392), DictEntry.mk (PyData.keyHash P (Str.ofString "_law_same")) (Value.str (Str.ofString "_law_same") 693) (Value.ref 399), DictEntry.mk (PyData.keyHash P (Str.ofString "_law_said")) (Value.str (Str.ofString "_law_said") 704) (Value.ref 406), DictEntry.mk (PyData.keyHash P (Str.ofString "_law_any")) (Value.str (Str.ofString "_law_any") 713) (Value.ref 413), DictEntry.mk (PyData.keyHash P (Str.ofString "_law_deed")) (Value.str (Str.ofString "_law_deed") 731) (Value.ref 420), DictEntry.mk (PyData.keyHash P (Str.ofString "law")) (Value.str (Str.ofString "law") 748) (Value.ref 427)] 34) #[]
noncomputable def o20 : Params → Obj := fun P => Obj.mk (Value.type "code") none (Data.fields #[Value.str (Str.ofString "_wall") 187, Value.str (Str.ofString "_wall") 188, Value.str (Str.ofString "/claim/cut.py") 189, Value.int 1 0, Value.int 1 0, Value.int 0 0, Value.int 0 0, Value.int 3 0, Value.ref 15, Value.bool true, Value.int 181 0, Value.ref 16, Value.none, Value.ref 17, Value.ref 18, Value.ref 19, Value.int 191 0, Value.int 1 0, Value.str (Str.ofString "/claim/cut.py") 192]) #[]
noncomputable def o21 : Params → Obj := fun _ => fob (sAt PySem.Challenge.pw_uf040016_07.main.body [0]) (Str.ofString "_wall") (Value.none) (Value.str (Str.ofString "__main__") 164) (Value.ref 20)
noncomputable def o30 : Params → Obj := fun P => Obj.mk (Value.type "dict") none (Data.dict #[DictEntry.mk (PyData.keyHash P (Str.ofString "__module__")) (Value.str (Str.ofString "__module__") 203) (Value.str (Str.ofString "waybook.errors") 194), DictEntry.mk (PyData.keyHash P (Str.ofString "__firstlineno__")) (Value.str (Str.ofString "__firstlineno__") 207) (Value.int 5 206), DictEntry.mk (PyData.keyHash P (Str.ofString "__static_attributes__")) (Value.str (Str.ofString "__static_attributes__") 208) (Value.ref 29), DictEntry.mk (PyData.keyHash P (Str.ofString "__weakref__")) (Value.str (Str.ofString "__weakref__") 210) (Value.ref 32), DictEntry.mk (PyData.keyHash P (Str.ofString "__doc__")) (Value.str (Str.ofString "__doc__") 211) Value.none] 3) #[]
noncomputable def o31 : Params → Obj := fun P => Obj.mk (Value.type "type") none (Data.cls (ClassData.mk (Str.ofString "BookError") [Value.type "ValueError"] [Value.ref 31, Value.type "ValueError", Value.type "Exception", Value.type "BaseException", Value.type "object"] 30 (Str.ofString "BookError") true [] [Value.ref 44, Value.ref 56, Value.ref 68, Value.ref 80, Value.ref 92, Value.ref 104] false none false)) #[some (Value.ref 22), none, some (Value.str (Str.ofString "BookError") 196), some (Value.str (Str.ofString "BookError") 204), some (Value.builtin "ValueError.__new__"), some (Value.bool true)]
noncomputable def o32 : Params → Obj := fun P => Obj.mk (Value.type "getset_descriptor") none (Data.fields #[Value.str (Str.ofString "__weakref__") 209, Value.ref 31, Value.builtin "ExceptionGroup.__weakref__", Value.none]) #[]
noncomputable def o43 : Params → Obj := fun P => Obj.mk (Value.type "dict") none (Data.dict #[DictEntry.mk (PyData.keyHash P (Str.ofString "__module__")) (Value.str (Str.ofString "__module__") 221) (Value.str (Str.ofString "waybook.errors") 194), DictEntry.mk (PyData.keyHash P (Str.ofString "__firstlineno__")) (Value.str (Str.ofString "__firstlineno__") 225) (Value.int 7 224), DictEntry.mk (PyData.keyHash P (Str.ofString "__static_attributes__")) (Value.str (Str.ofString "__static_attributes__") 226) (Value.ref 42), DictEntry.mk (PyData.keyHash P (Str.ofString "__doc__")) (Value.str (Str.ofString "__doc__") 227) Value.none] 2) #[]
noncomputable def o44 : Params → Obj := fun P => Obj.mk (Value.type "type") none (Data.cls (ClassData.mk (Str.ofString "BadWidth") [Value.ref 31] [Value.ref 44, Value.ref 31, Value.type "ValueError", Value.type "Exception", Value.type "BaseException", Value.type "object"] 43 (Str.ofString "BadWidth") true [] [] false none false)) #[some (Value.ref 35), none, some (Value.str (Str.ofString "BadWidth") 214), some (Value.str (Str.ofString "BadWidth") 222), some (Value.builtin "ValueError.__new__"), some (Value.bool true)]
noncomputable def o55 : Params → Obj := fun P => Obj.mk (Value.type "dict") none (Data.dict #[DictEntry.mk (PyData.keyHash P (Str.ofString "__module__")) (Value.str (Str.ofString "__module__") 237) (Value.str (Str.ofString "waybook.errors") 194), DictEntry.mk (PyData.keyHash P (Str.ofString "__firstlineno__")) (Value.str (Str.ofString "__firstlineno__") 241) (Value.int 9 240), DictEntry.mk (PyData.keyHash P (Str.ofString "__static_attributes__")) (Value.str (Str.ofString "__static_attributes__") 242) (Value.ref 54), DictEntry.mk (PyData.keyHash P (Str.ofString "__doc__")) (Value.str (Str.ofString "__doc__") 243) Value.none] 2) #[]
noncomputable def o56 : Params → Obj := fun P => Obj.mk (Value.type "type") none (Data.cls (ClassData.mk (Str.ofString "BadRow") [Value.ref 31] [Value.ref 56, Value.ref 31, Value.type "ValueError", Value.type "Exception", Value.type "BaseException", Value.type "object"] 55 (Str.ofString "BadRow") true [] [] false none false)) #[some (Value.ref 47), none, some (Value.str (Str.ofString "BadRow") 230), some (Value.str (Str.ofString "BadRow") 238), some (Value.builtin "ValueError.__new__"), some (Value.bool true)]
noncomputable def o67 : Params → Obj := fun P => Obj.mk (Value.type "dict") none (Data.dict #[DictEntry.mk (PyData.keyHash P (Str.ofString "__module__")) (Value.str (Str.ofString "__module__") 253) (Value.str (Str.ofString "waybook.errors") 194), DictEntry.mk (PyData.keyHash P (Str.ofString "__firstlineno__")) (Value.str (Str.ofString "__firstlineno__") 257) (Value.int 11 256), DictEntry.mk (PyData.keyHash P (Str.ofString "__static_attributes__")) (Value.str (Str.ofString "__static_attributes__") 258) (Value.ref 66), DictEntry.mk (PyData.keyHash P (Str.ofString "__doc__")) (Value.str (Str.ofString "__doc__") 259) Value.none] 2) #[]
noncomputable def o68 : Params → Obj := fun P => Obj.mk (Value.type "type") none (Data.cls (ClassData.mk (Str.ofString "Full") [Value.ref 31] [Value.ref 68, Value.ref 31, Value.type "ValueError", Value.type "Exception", Value.type "BaseException", Value.type "object"] 67 (Str.ofString "Full") true [] [] false none false)) #[some (Value.ref 59), none, some (Value.str (Str.ofString "Full") 246), some (Value.str (Str.ofString "Full") 254), some (Value.builtin "ValueError.__new__"), some (Value.bool true)]
noncomputable def o79 : Params → Obj := fun P => Obj.mk (Value.type "dict") none (Data.dict #[DictEntry.mk (PyData.keyHash P (Str.ofString "__module__")) (Value.str (Str.ofString "__module__") 269) (Value.str (Str.ofString "waybook.errors") 194), DictEntry.mk (PyData.keyHash P (Str.ofString "__firstlineno__")) (Value.str (Str.ofString "__firstlineno__") 273) (Value.int 13 272), DictEntry.mk (PyData.keyHash P (Str.ofString "__static_attributes__")) (Value.str (Str.ofString "__static_attributes__") 274) (Value.ref 78), DictEntry.mk (PyData.keyHash P (Str.ofString "__doc__")) (Value.str (Str.ofString "__doc__") 275) Value.none] 2) #[]
noncomputable def o80 : Params → Obj := fun P => Obj.mk (Value.type "type") none (Data.cls (ClassData.mk (Str.ofString "NoRow") [Value.ref 31] [Value.ref 80, Value.ref 31, Value.type "ValueError", Value.type "Exception", Value.type "BaseException", Value.type "object"] 79 (Str.ofString "NoRow") true [] [] false none false)) #[some (Value.ref 71), none, some (Value.str (Str.ofString "NoRow") 262), some (Value.str (Str.ofString "NoRow") 270), some (Value.builtin "ValueError.__new__"), some (Value.bool true)]
noncomputable def o91 : Params → Obj := fun P => Obj.mk (Value.type "dict") none (Data.dict #[DictEntry.mk (PyData.keyHash P (Str.ofString "__module__")) (Value.str (Str.ofString "__module__") 285) (Value.str (Str.ofString "waybook.errors") 194), DictEntry.mk (PyData.keyHash P (Str.ofString "__firstlineno__")) (Value.str (Str.ofString "__firstlineno__") 289) (Value.int 15 288), DictEntry.mk (PyData.keyHash P (Str.ofString "__static_attributes__")) (Value.str (Str.ofString "__static_attributes__") 290) (Value.ref 90), DictEntry.mk (PyData.keyHash P (Str.ofString "__doc__")) (Value.str (Str.ofString "__doc__") 291) Value.none] 2) #[]
noncomputable def o92 : Params → Obj := fun P => Obj.mk (Value.type "type") none (Data.cls (ClassData.mk (Str.ofString "BadColumn") [Value.ref 31] [Value.ref 92, Value.ref 31, Value.type "ValueError", Value.type "Exception", Value.type "BaseException", Value.type "object"] 91 (Str.ofString "BadColumn") true [] [] false none false)) #[some (Value.ref 83), none, some (Value.str (Str.ofString "BadColumn") 278), some (Value.str (Str.ofString "BadColumn") 286), some (Value.builtin "ValueError.__new__"), some (Value.bool true)]
noncomputable def o103 : Params → Obj := fun P => Obj.mk (Value.type "dict") none (Data.dict #[DictEntry.mk (PyData.keyHash P (Str.ofString "__module__")) (Value.str (Str.ofString "__module__") 301) (Value.str (Str.ofString "waybook.errors") 194), DictEntry.mk (PyData.keyHash P (Str.ofString "__firstlineno__")) (Value.str (Str.ofString "__firstlineno__") 305) (Value.int 17 304), DictEntry.mk (PyData.keyHash P (Str.ofString "__static_attributes__")) (Value.str (Str.ofString "__static_attributes__") 306) (Value.ref 102), DictEntry.mk (PyData.keyHash P (Str.ofString "__doc__")) (Value.str (Str.ofString "__doc__") 307) Value.none] 2) #[]
noncomputable def o104 : Params → Obj := fun P => Obj.mk (Value.type "type") none (Data.cls (ClassData.mk (Str.ofString "BadOrder") [Value.ref 31] [Value.ref 104, Value.ref 31, Value.type "ValueError", Value.type "Exception", Value.type "BaseException", Value.type "object"] 103 (Str.ofString "BadOrder") true [] [] false none false)) #[some (Value.ref 95), none, some (Value.str (Str.ofString "BadOrder") 294), some (Value.str (Str.ofString "BadOrder") 302), some (Value.builtin "ValueError.__new__"), some (Value.bool true)]
noncomputable def o112 : Params → Obj := fun P => Obj.mk (Value.type "code") none (Data.fields #[Value.str (Str.ofString "is_whole") 312, Value.str (Str.ofString "is_whole") 313, Value.str (Str.ofString "/claim/cut.py") 314, Value.int 20 0, Value.int 1 0, Value.int 0 0, Value.int 0 0, Value.int 3 0, Value.ref 107, Value.bool true, Value.int 181 0, Value.ref 108, Value.none, Value.ref 109, Value.ref 110, Value.ref 111, Value.int 316 0, Value.int 20 0, Value.str (Str.ofString "/claim/cut.py") 317]) #[]
noncomputable def o113 : Params → Obj := fun _ => fob (sAt PySem.Challenge.pw_uf040016_07.main.body [10]) (Str.ofString "is_whole") (Value.none) (Value.str (Str.ofString "waybook.keys") 310) (Value.ref 112)
noncomputable def o119 : Params → Obj := fun P => Obj.mk (Value.type "code") none (Data.fields #[Value.str (Str.ofString "less") 319, Value.str (Str.ofString "less") 320, Value.str (Str.ofString "/claim/cut.py") 321, Value.int 22 0, Value.int 2 0, Value.int 0 0, Value.int 0 0, Value.int 3 0, Value.ref 114, Value.bool true, Value.int 181 0, Value.ref 115, Value.none, Value.ref 116, Value.ref 117, Value.ref 118, Value.int 325 0, Value.int 22 0, Value.str (Str.ofString "/claim/cut.py") 326]) #[]
noncomputable def o120 : Params → Obj := fun _ => fob (sAt PySem.Challenge.pw_uf040016_07.main.body [11]) (Str.ofString "less") (Value.none) (Value.str (Str.ofString "waybook.keys") 310) (Value.ref 119)
noncomputable def o126 : Params → Obj := fun P => Obj.mk (Value.type "code") none (Data.fields #[Value.str (Str.ofString "below") 328, Value.str (Str.ofString "below") 329, Value.str (Str.ofString "/claim/cut.py") 330, Value.int 27 0, Value.int 2 0, Value.int 0 0, Value.int 0 0, Value.int 3 0, Value.ref 121, Value.bool true, Value.int 181 0, Value.ref 122, Value.none, Value.ref 123, Value.ref 124, Value.ref 125, Value.int 336 0, Value.int 27 0, Value.str (Str.ofString "/claim/cut.py") 337]) #[]
noncomputable def o127 : Params → Obj := fun _ => fob (sAt PySem.Challenge.pw_uf040016_07.main.body [12]) (Str.ofString "below") (Value.none) (Value.str (Str.ofString "waybook.keys") 310) (Value.ref 126)
noncomputable def o140 : Params → Obj := fun P => Obj.mk (Value.type "code") none (Data.fields #[Value.str (Str.ofString "__init__") 353, Value.str (Str.ofString "Kept.__init__") 354, Value.str (Str.ofString "/claim/cut.py") 355, Value.int 40 0, Value.int 2 0, Value.int 0 0, Value.int 0 0, Value.int 3 0, Value.ref 135, Value.bool true, Value.int 181 0, Value.ref 136, Value.none, Value.ref 137, Value.ref 138, Value.ref 139, Value.int 358 0, Value.int 40 0, Value.str (Str.ofString "/claim/cut.py") 359]) #[]
noncomputable def o141 : Params → Obj := fun _ => fob (sAt PySem.Challenge.pw_uf040016_07.main.body [14, 0]) (Str.ofString "Kept.__init__") (Value.none) (Value.str (Str.ofString "waybook.orders") 339) (Value.ref 140)
noncomputable def o145 : Params → Obj := fun P => Obj.mk (Value.type "code") none (Data.fields #[Value.str (Str.ofString "entry_of") 361, Value.str (Str.ofString "Kept.entry_of") 362, Value.str (Str.ofString "/claim/cut.py") 363, Value.int 44 0, Value.int 3 0, Value.int 0 0, Value.int 0 0, Value.int 3 0, Value.ref 142, Value.bool true, Value.int 181 0, Value.ref 143, Value.none, Value.none, Value.none, Value.ref 144, Value.int 364 0, Value.int 44 0, Value.str (Str.ofString "/claim/cut.py") 365]) #[]
noncomputable def o146 : Params → Obj := fun _ => fob (sAt PySem.Challenge.pw_uf040016_07.main.body [14, 1]) (Str.ofString "Kept.entry_of") (Value.none) (Value.str (Str.ofString "waybook.orders") 339) (Value.ref 145)
noncomputable def o152 : Params → Obj := fun P => Obj.mk (Value.type "code") none (Data.fields #[Value.str (Str.ofString "put") 367, Value.str (Str.ofString "Kept.put") 368, Value.str (Str.ofString "/claim/cut.py") 369, Value.int 47 0, Value.int 3 0, Value.int 0 0, Value.int 0 0, Value.int 3 0, Value.ref 147, Value.bool true, Value.int 181 0, Value.ref 148, Value.none, Value.ref 149, Value.ref 150, Value.ref 151, Value.int 374 0, Value.int 47 0, Value.str (Str.ofString "/claim/cut.py") 375]) #[]
noncomputable def o153 : Params → Obj := fun _ => fob (sAt PySem.Challenge.pw_uf040016_07.main.body [14, 2]) (Str.ofString "Kept.put") (Value.none) (Value.str (Str.ofString "waybook.orders") 339) (Value.ref 152)
noncomputable def o159 : Params → Obj := fun P => Obj.mk (Value.type "code") none (Data.fields #[Value.str (Str.ofString "drop") 377, Value.str (Str.ofString "Kept.drop") 378, Value.str (Str.ofString "/claim/cut.py") 379, Value.int 51 0, Value.int 3 0, Value.int 0 0, Value.int 0 0, Value.int 3 0, Value.ref 154, Value.bool true, Value.int 181 0, Value.ref 155, Value.none, Value.ref 156, Value.ref 157, Value.ref 158, Value.int 383 0, Value.int 51 0, Value.str (Str.ofString "/claim/cut.py") 384]) #[]
noncomputable def o160 : Params → Obj := fun _ => fob (sAt PySem.Challenge.pw_uf040016_07.main.body [14, 3]) (Str.ofString "Kept.drop") (Value.none) (Value.str (Str.ofString "waybook.orders") 339) (Value.ref 159)
noncomputable def o164 : Params → Obj := fun P => Obj.mk (Value.type "code") none (Data.fields #[Value.str (Str.ofString "numbers") 386, Value.str (Str.ofString "Kept.numbers") 387, Value.str (Str.ofString "/claim/cut.py") 388, Value.int 54 0, Value.int 1 0, Value.int 0 0, Value.int 0 0, Value.int 3 0, Value.ref 161, Value.bool true, Value.int 181 0, Value.ref 162, Value.none, Value.none, Value.none, Value.ref 163, Value.int 389 0, Value.int 54 0, Value.str (Str.ofString "/claim/cut.py") 390]) #[]
noncomputable def o165 : Params → Obj := fun _ => fob (sAt PySem.Challenge.pw_uf040016_07.main.body [14, 4]) (Str.ofString "Kept.numbers") (Value.none) (Value.str (Str.ofString "waybook.orders") 339) (Value.ref 164)
noncomputable def o171 : Params → Obj := fun P => Obj.mk (Value.type "code") none (Data.fields #[Value.str (Str.ofString "bounds") 392, Value.str (Str.ofString "Kept.bounds") 393, Value.str (Str.ofString "/claim/cut.py") 394, Value.int 57 0, Value.int 2 0, Value.int 0 0, Value.int 0 0, Value.int 3 0, Value.ref 166, Value.bool true, Value.int 181 0, Value.ref 167, Value.none, Value.ref 168, Value.ref 169, Value.ref 170, Value.int 397 0, Value.int 57 0, Value.str (Str.ofString "/claim/cut.py") 398]) #[]
noncomputable def o172 : Params → Obj := fun _ => fob (sAt PySem.Challenge.pw_uf040016_07.main.body [14, 5]) (Str.ofString "Kept.bounds") (Value.none) (Value.str (Str.ofString "waybook.orders") 339) (Value.ref 171)
noncomputable def o178 : Params → Obj := fun P => Obj.mk (Value.type "code") none (Data.fields #[Value.str (Str.ofString "behind") 400, Value.str (Str.ofString "Kept.behind") 401, Value.str (Str.ofString "/claim/cut.py") 402, Value.int 60 0, Value.int 2 0, Value.int 0 0, Value.int 0 0, Value.int 3 0, Value.ref 173, Value.bool true, Value.int 181 0, Value.ref 174, Value.none, Value.ref 175, Value.ref 176, Value.ref 177, Value.int 405 0, Value.int 60 0, Value.str (Str.ofString "/claim/cut.py") 406]) #[]
noncomputable def o179 : Params → Obj := fun _ => fob (sAt PySem.Challenge.pw_uf040016_07.main.body [14, 6]) (Str.ofString "Kept.behind") (Value.none) (Value.str (Str.ofString "waybook.orders") 339) (Value.ref 178)
noncomputable def o185 : Params → Obj := fun P => Obj.mk (Value.type "code") none (Data.fields #[Value.str (Str.ofString "stretch") 408, Value.str (Str.ofString "Kept.stretch") 409, Value.str (Str.ofString "/claim/cut.py") 410, Value.int 65 0, Value.int 2 0, Value.int 0 0, Value.int 0 0, Value.int 3 0, Value.ref 180, Value.bool true, Value.int 181 0, Value.ref 181, Value.none, Value.ref 182, Value.ref 183, Value.ref 184, Value.int 413 0, Value.int 65 0, Value.str (Str.ofString "/claim/cut.py") 414]) #[]
noncomputable def o186 : Params → Obj := fun _ => fob (sAt PySem.Challenge.pw_uf040016_07.main.body [14, 7]) (Str.ofString "Kept.stretch") (Value.none) (Value.str (Str.ofString "waybook.orders") 339) (Value.ref 185)
noncomputable def o192 : Params → Obj := fun P => Obj.mk (Value.type "code") none (Data.fields #[Value.str (Str.ofString "covers") 416, Value.str (Str.ofString "Kept.covers") 417, Value.str (Str.ofString "/claim/cut.py") 418, Value.int 68 0, Value.int 2 0, Value.int 0 0, Value.int 0 0, Value.int 3 0, Value.ref 187, Value.bool true, Value.int 181 0, Value.ref 188, Value.none, Value.ref 189, Value.ref 190, Value.ref 191, Value.int 421 0, Value.int 68 0, Value.str (Str.ofString "/claim/cut.py") 422]) #[]
noncomputable def o193 : Params → Obj := fun _ => fob (sAt PySem.Challenge.pw_uf040016_07.main.body [14, 8]) (Str.ofString "Kept.covers") (Value.none) (Value.str (Str.ofString "waybook.orders") 339) (Value.ref 192)
noncomputable def o195 : Params → Obj := fun P => Obj.mk (Value.type "dict") none (Data.dict #[DictEntry.mk (PyData.keyHash P (Str.ofString "__module__")) (Value.str (Str.ofString "__module__") 348) (Value.str (Str.ofString "waybook.orders") 339), DictEntry.mk (PyData.keyHash P (Str.ofString "__firstlineno__")) (Value.str (Str.ofString "__firstlineno__") 352) (Value.int 38 351), DictEntry.mk (PyData.keyHash P (Str.ofString "__init__")) (Value.str (Str.ofString "__init__") 360) (Value.ref 141), DictEntry.mk (PyData.keyHash P (Str.ofString "entry_of")) (Value.str (Str.ofString "entry_of") 366) (Value.ref 146), DictEntry.mk (PyData.keyHash P (Str.ofString "put")) (Value.str (Str.ofString "put") 376) (Value.ref 153), DictEntry.mk (PyData.keyHash P (Str.ofString "drop")) (Value.str (Str.ofString "drop") 385) (Value.ref 160), DictEntry.mk (PyData.keyHash P (Str.ofString "numbers")) (Value.str (Str.ofString "numbers") 391) (Value.ref 165), DictEntry.mk (PyData.keyHash P (Str.ofString "bounds")) (Value.str (Str.ofString "bounds") 399) (Value.ref 172), DictEntry.mk (PyData.keyHash P (Str.ofString "behind")) (Value.str (Str.ofString "behind") 407) (Value.ref 179), DictEntry.mk (PyData.keyHash P (Str.ofString "stretch")) (Value.str (Str.ofString "stretch") 415) (Value.ref 186), DictEntry.mk (PyData.keyHash P (Str.ofString "covers")) (Value.str (Str.ofString "covers") 423) (Value.ref 193), DictEntry.mk (PyData.keyHash P (Str.ofString "__static_attributes__")) (Value.str (Str.ofString "__static_attributes__") 426) (Value.ref 194), DictEntry.mk (PyData.keyHash P (Str.ofString "__dict__")) (Value.str (Str.ofString "__dict__") 428) (Value.ref 197), DictEntry.mk (PyData.keyHash P (Str.ofString "__weakref__")) (Value.str (Str.ofString "__weakref__") 430) (Value.ref 198), DictEntry.mk (PyData.keyHash P (Str.ofString "__doc__")) (Value.str (Str.ofString "__doc__") 431) Value.none] 4) #[]
noncomputable def o196 : Params → Obj := fun P => Obj.mk (Value.type "type") none (Data.cls (ClassData.mk (Str.ofString "Kept") [Value.type "object"] [Value.ref 196, Value.type "object"] 195 (Str.ofString "Kept") true [] [] false none false)) #[none, none, some (Value.str (Str.ofString "Kept") 341), some (Value.str (Str.ofString "Kept") 349), some (Value.builtin "object.__new__"), some (Value.bool true)]
noncomputable def o197 : Params → Obj := fun P => Obj.mk (Value.type "getset_descriptor") none (Data.fields #[Value.str (Str.ofString "__dict__") 427, Value.ref 196, Value.builtin "function.__dict__", Value.builtin "function.__dict__#set"]) #[]
noncomputable def o198 : Params → Obj := fun P => Obj.mk (Value.type "getset_descriptor") none (Data.fields #[Value.str (Str.ofString "__weakref__") 429, Value.ref 196, Value.builtin "ExceptionGroup.__weakref__", Value.none]) #[]
noncomputable def o213 : Params → Obj := fun P => Obj.mk (Value.type "code") none (Data.fields #[Value.str (Str.ofString "__init__") 454, Value.str (Str.ofString "Table.__init__") 455, Value.str (Str.ofString "/claim/cut.py") 456, Value.int 76 0, Value.int 2 0, Value.int 0 0, Value.int 0 0, Value.int 3 0, Value.ref 208, Value.bool true, Value.int 181 0, Value.ref 209, Value.none, Value.ref 210, Value.ref 211, Value.ref 212, Value.int 459 0, Value.int 76 0, Value.str (Str.ofString "/claim/cut.py") 460]) #[]
noncomputable def o214 : Params → Obj := fun _ => fob (sAt PySem.Challenge.pw_uf040016_07.main.body [19, 0]) (Str.ofString "Table.__init__") (Value.none) (Value.str (Str.ofString "waybook.table") 434) (Value.ref 213)
noncomputable def o220 : Params → Obj := fun P => Obj.mk (Value.type "code") none (Data.fields #[Value.str (Str.ofString "has_column") 462, Value.str (Str.ofString "Table.has_column") 463, Value.str (Str.ofString "/claim/cut.py") 464, Value.int 84 0, Value.int 2 0, Value.int 0 0, Value.int 0 0, Value.int 3 0, Value.ref 215, Value.bool true, Value.int 181 0, Value.ref 216, Value.none, Value.ref 217, Value.ref 218, Value.ref 219, Value.int 467 0, Value.int 84 0, Value.str (Str.ofString "/claim/cut.py") 468]) #[]
noncomputable def o221 : Params → Obj := fun _ => fob (sAt PySem.Challenge.pw_uf040016_07.main.body [19, 1]) (Str.ofString "Table.has_column") (Value.none) (Value.str (Str.ofString "waybook.table") 434) (Value.ref 220)
noncomputable def o227 : Params → Obj := fun P => Obj.mk (Value.type "code") none (Data.fields #[Value.str (Str.ofString "need_row") 470, Value.str (Str.ofString "Table.need_row") 471, Value.str (Str.ofString "/claim/cut.py") 472, Value.int 87 0, Value.int 2 0, Value.int 0 0, Value.int 0 0, Value.int 3 0, Value.ref 222, Value.bool true, Value.int 181 0, Value.ref 223, Value.none, Value.ref 224, Value.ref 225, Value.ref 226, Value.int 475 0, Value.int 87 0, Value.str (Str.ofString "/claim/cut.py") 476]) #[]
noncomputable def o228 : Params → Obj := fun _ => fob (sAt PySem.Challenge.pw_uf040016_07.main.body [19, 2]) (Str.ofString "Table.need_row") (Value.none) (Value.str (Str.ofString "waybook.table") 434) (Value.ref 227)
noncomputable def o234 : Params → Obj := fun P => Obj.mk (Value.type "code") none (Data.fields #[Value.str (Str.ofString "is_triple") 478, Value.str (Str.ofString "Table.is_triple") 479, Value.str (Str.ofString "/claim/cut.py") 480, Value.int 91 0, Value.int 2 0, Value.int 0 0, Value.int 0 0, Value.int 3 0, Value.ref 229, Value.bool true, Value.int 181 0, Value.ref 230, Value.none, Value.ref 231, Value.ref 232, Value.ref 233, Value.int 483 0, Value.int 91 0, Value.str (Str.ofString "/claim/cut.py") 484]) #[]
noncomputable def o235 : Params → Obj := fun _ => fob (sAt PySem.Challenge.pw_uf040016_07.main.body [19, 3]) (Str.ofString "Table.is_triple") (Value.none) (Value.str (Str.ofString "waybook.table") 434) (Value.ref 234)
noncomputable def o241 : Params → Obj := fun P => Obj.mk (Value.type "code") none (Data.fields #[Value.str (Str.ofString "need_wish") 486, Value.str (Str.ofString "Table.need_wish") 487, Value.str (Str.ofString "/claim/cut.py") 488, Value.int 94 0, Value.int 2 0, Value.int 0 0, Value.int 0 0, Value.int 3 0, Value.ref 236, Value.bool true, Value.int 181 0, Value.ref 237, Value.none, Value.ref 238, Value.ref 239, Value.ref 240, Value.int 491 0, Value.int 94 0, Value.str (Str.ofString "/claim/cut.py") 492]) #[]
noncomputable def o242 : Params → Obj := fun _ => fob (sAt PySem.Challenge.pw_uf040016_07.main.body [19, 4]) (Str.ofString "Table.need_wish") (Value.none) (Value.str (Str.ofString "waybook.table") 434) (Value.ref 241)
noncomputable def o248 : Params → Obj := fun P => Obj.mk (Value.type "code") none (Data.fields #[Value.str (Str.ofString "is_order") 494, Value.str (Str.ofString "Table.is_order") 495, Value.str (Str.ofString "/claim/cut.py") 496, Value.int 97 0, Value.int 2 0, Value.int 0 0, Value.int 0 0, Value.int 3 0, Value.ref 243, Value.bool true, Value.int 181 0, Value.ref 244, Value.none, Value.ref 245, Value.ref 246, Value.ref 247, Value.int 500 0, Value.int 97 0, Value.str (Str.ofString "/claim/cut.py") 501]) #[]
noncomputable def o249 : Params → Obj := fun _ => fob (sAt PySem.Challenge.pw_uf040016_07.main.body [19, 5]) (Str.ofString "Table.is_order") (Value.none) (Value.str (Str.ofString "waybook.table") 434) (Value.ref 248)
noncomputable def o255 : Params → Obj := fun P => Obj.mk (Value.type "code") none (Data.fields #[Value.str (Str.ofString "kept_of") 503, Value.str (Str.ofString "Table.kept_of") 504, Value.str (Str.ofString "/claim/cut.py") 505, Value.int 105 0, Value.int 2 0, Value.int 0 0, Value.int 0 0, Value.int 3 0, Value.ref 250, Value.bool true, Value.int 181 0, Value.ref 251, Value.none, Value.ref 252, Value.ref 253, Value.ref 254, Value.int 508 0, Value.int 105 0, Value.str (Str.ofString "/claim/cut.py") 509]) #[]
noncomputable def o256 : Params → Obj := fun _ => fob (sAt PySem.Challenge.pw_uf040016_07.main.body [19, 6]) (Str.ofString "Table.kept_of") (Value.none) (Value.str (Str.ofString "waybook.table") 434) (Value.ref 255)
noncomputable def o262 : Params → Obj := fun P => Obj.mk (Value.type "code") none (Data.fields #[Value.str (Str.ofString "put") 511, Value.str (Str.ofString "Table.put") 512, Value.str (Str.ofString "/claim/cut.py") 513, Value.int 108 0, Value.int 2 0, Value.int 0 0, Value.int 0 0, Value.int 3 0, Value.ref 257, Value.bool true, Value.int 181 0, Value.ref 258, Value.none, Value.ref 259, Value.ref 260, Value.ref 261, Value.int 519 0, Value.int 108 0, Value.str (Str.ofString "/claim/cut.py") 520]) #[]
noncomputable def o263 : Params → Obj := fun _ => fob (sAt PySem.Challenge.pw_uf040016_07.main.body [19, 7]) (Str.ofString "Table.put") (Value.none) (Value.str (Str.ofString "waybook.table") 434) (Value.ref 262)
noncomputable def o269 : Params → Obj := fun P => Obj.mk (Value.type "code") none (Data.fields #[Value.str (Str.ofString "drop") 522, Value.str (Str.ofString "Table.drop") 523, Value.str (Str.ofString "/claim/cut.py") 524, Value.int 123 0, Value.int 2 0, Value.int 0 0, Value.int 0 0, Value.int 3 0, Value.ref 264, Value.bool true, Value.int 181 0, Value.ref 265, Value.none, Value.ref 266, Value.ref 267, Value.ref 268, Value.int 529 0, Value.int 123 0, Value.str (Str.ofString "/claim/cut.py") 530]) #[]
noncomputable def o270 : Params → Obj := fun _ => fob (sAt PySem.Challenge.pw_uf040016_07.main.body [19, 8]) (Str.ofString "Table.drop") (Value.none) (Value.str (Str.ofString "waybook.table") 434) (Value.ref 269)
noncomputable def o276 : Params → Obj := fun P => Obj.mk (Value.type "code") none (Data.fields #[Value.str (Str.ofString "change") 532, Value.str (Str.ofString "Table.change") 533, Value.str (Str.ofString "/claim/cut.py") 534, Value.int 129 0, Value.int 4 0, Value.int 0 0, Value.int 0 0, Value.int 3 0, Value.ref 271, Value.bool true, Value.int 181 0, Value.ref 272, Value.none, Value.ref 273, Value.ref 274, Value.ref 275, Value.int 542 0, Value.int 129 0, Value.str (Str.ofString "/claim/cut.py") 543]) #[]
noncomputable def o277 : Params → Obj := fun _ => fob (sAt PySem.Challenge.pw_uf040016_07.main.body [19, 9]) (Str.ofString "Table.change") (Value.none) (Value.str (Str.ofString "waybook.table") 434) (Value.ref 276)
noncomputable def o283 : Params → Obj := fun P => Obj.mk (Value.type "code") none (Data.fields #[Value.str (Str.ofString "row") 545, Value.str (Str.ofString "Table.row") 546, Value.str (Str.ofString "/claim/cut.py") 547, Value.int 142 0, Value.int 2 0, Value.int 0 0, Value.int 0 0, Value.int 3 0, Value.ref 278, Value.bool true, Value.int 181 0, Value.ref 279, Value.none, Value.ref 280, Value.ref 281, Value.ref 282, Value.int 550 0, Value.int 142 0, Value.str (Str.ofString "/claim/cut.py") 551]) #[]
noncomputable def o284 : Params → Obj := fun _ => fob (sAt PySem.Challenge.pw_uf040016_07.main.body [19, 10]) (Str.ofString "Table.row") (Value.none) (Value.str (Str.ofString "waybook.table") 434) (Value.ref 283)
noncomputable def o290 : Params → Obj := fun P => Obj.mk (Value.type "code") none (Data.fields #[Value.str (Str.ofString "numbers") 553, Value.str (Str.ofString "Table.numbers") 554, Value.str (Str.ofString "/claim/cut.py") 555, Value.int 146 0, Value.int 1 0, Value.int 0 0, Value.int 0 0, Value.int 3 0, Value.ref 285, Value.bool true, Value.int 181 0, Value.ref 286, Value.none, Value.ref 287, Value.ref 288, Value.ref 289, Value.int 557 0, Value.int 146 0, Value.str (Str.ofString "/claim/cut.py") 558]) #[]
noncomputable def o291 : Params → Obj := fun _ => fob (sAt PySem.Challenge.pw_uf040016_07.main.body [19, 11]) (Str.ofString "Table.numbers") (Value.none) (Value.str (Str.ofString "waybook.table") 434) (Value.ref 290)
noncomputable def o297 : Params → Obj := fun P => Obj.mk (Value.type "code") none (Data.fields #[Value.str (Str.ofString "tell") 560, Value.str (Str.ofString "Table.tell") 561, Value.str (Str.ofString "/claim/cut.py") 562, Value.int 149 0, Value.int 2 0, Value.int 0 0, Value.int 0 0, Value.int 3 0, Value.ref 292, Value.bool true, Value.int 181 0, Value.ref 293, Value.none, Value.ref 294, Value.ref 295, Value.ref 296, Value.int 567 0, Value.int 149 0, Value.str (Str.ofString "/claim/cut.py") 568]) #[]
noncomputable def o298 : Params → Obj := fun _ => fob (sAt PySem.Challenge.pw_uf040016_07.main.body [19, 12]) (Str.ofString "Table.tell") (Value.none) (Value.str (Str.ofString "waybook.table") 434) (Value.ref 297)
noncomputable def o304 : Params → Obj := fun P => Obj.mk (Value.type "code") none (Data.fields #[Value.str (Str.ofString "forget") 570, Value.str (Str.ofString "Table.forget") 571, Value.str (Str.ofString "/claim/cut.py") 572, Value.int 161 0, Value.int 2 0, Value.int 0 0, Value.int 0 0, Value.int 3 0, Value.ref 299, Value.bool true, Value.int 181 0, Value.ref 300, Value.none, Value.ref 301, Value.ref 302, Value.ref 303, Value.int 575 0, Value.int 161 0, Value.str (Str.ofString "/claim/cut.py") 576]) #[]
noncomputable def o305 : Params → Obj := fun _ => fob (sAt PySem.Challenge.pw_uf040016_07.main.body [19, 13]) (Str.ofString "Table.forget") (Value.none) (Value.str (Str.ofString "waybook.table") 434) (Value.ref 304)
noncomputable def o309 : Params → Obj := fun P => Obj.mk (Value.type "code") none (Data.fields #[Value.str (Str.ofString "orders") 578, Value.str (Str.ofString "Table.orders") 579, Value.str (Str.ofString "/claim/cut.py") 580, Value.int 164 0, Value.int 1 0, Value.int 0 0, Value.int 0 0, Value.int 3 0, Value.ref 306, Value.bool true, Value.int 181 0, Value.ref 307, Value.none, Value.none, Value.none, Value.ref 308, Value.int 581 0, Value.int 164 0, Value.str (Str.ofString "/claim/cut.py") 582]) #[]
noncomputable def o310 : Params → Obj := fun _ => fob (sAt PySem.Challenge.pw_uf040016_07.main.body [19, 14]) (Str.ofString "Table.orders") (Value.none) (Value.str (Str.ofString "waybook.table") 434) (Value.ref 309)
noncomputable def o316 : Params → Obj := fun P => Obj.mk (Value.type "code") none (Data.fields #[Value.str (Str.ofString "listed") 584, Value.str (Str.ofString "Table.listed") 585, Value.str (Str.ofString "/claim/cut.py") 586, Value.int 167 0, Value.int 2 0, Value.int 0 0, Value.int 0 0, Value.int 3 0, Value.ref 311, Value.bool true, Value.int 181 0, Value.ref 312, Value.none, Value.ref 313, Value.ref 314, Value.ref 315, Value.int 589 0, Value.int 167 0, Value.str (Str.ofString "/claim/cut.py") 590]) #[]
noncomputable def o317 : Params → Obj := fun _ => fob (sAt PySem.Challenge.pw_uf040016_07.main.body [19, 15]) (Str.ofString "Table.listed") (Value.none) (Value.str (Str.ofString "waybook.table") 434) (Value.ref 316)
noncomputable def o323 : Params → Obj := fun P => Obj.mk (Value.type "code") none (Data.fields #[Value.str (Str.ofString "cost_of") 592, Value.str (Str.ofString "Table.cost_of") 593, Value.str (Str.ofString "/claim/cut.py") 594, Value.int 170 0, Value.int 3 0, Value.int 0 0, Value.int 0 0, Value.int 3 0, Value.ref 318, Value.bool true, Value.int 181 0, Value.ref 319, Value.none, Value.ref 320, Value.ref 321, Value.ref 322, Value.int 598 0, Value.int 170 0, Value.str (Str.ofString "/claim/cut.py") 599]) #[]
noncomputable def o324 : Params → Obj := fun _ => fob (sAt PySem.Challenge.pw_uf040016_07.main.body [19, 16]) (Str.ofString "Table.cost_of") (Value.none) (Value.str (Str.ofString "waybook.table") 434) (Value.ref 323)
noncomputable def o330 : Params → Obj := fun P => Obj.mk (Value.type "code") none (Data.fields #[Value.str (Str.ofString "costs") 601, Value.str (Str.ofString "Table.costs") 602, Value.str (Str.ofString "/claim/cut.py") 603, Value.int 173 0, Value.int 2 0, Value.int 0 0, Value.int 0 0, Value.int 3 0, Value.ref 325, Value.bool true, Value.int 181 0, Value.ref 326, Value.none, Value.ref 327, Value.ref 328, Value.ref 329, Value.int 606 0, Value.int 173 0, Value.str (Str.ofString "/claim/cut.py") 607]) #[]
noncomputable def o331 : Params → Obj := fun _ => fob (sAt PySem.Challenge.pw_uf040016_07.main.body [19, 17]) (Str.ofString "Table.costs") (Value.none) (Value.str (Str.ofString "waybook.table") 434) (Value.ref 330)
noncomputable def o337 : Params → Obj := fun P => Obj.mk (Value.type "code") none (Data.fields #[Value.str (Str.ofString "plan") 609, Value.str (Str.ofString "Table.plan") 610, Value.str (Str.ofString "/claim/cut.py") 611, Value.int 176 0, Value.int 2 0, Value.int 0 0, Value.int 0 0, Value.int 3 0, Value.ref 332, Value.bool true, Value.int 181 0, Value.ref 333, Value.none, Value.ref 334, Value.ref 335, Value.ref 336, Value.int 614 0, Value.int 176 0, Value.str (Str.ofString "/claim/cut.py") 615]) #[]
noncomputable def o338 : Params → Obj := fun _ => fob (sAt PySem.Challenge.pw_uf040016_07.main.body [19, 18]) (Str.ofString "Table.plan") (Value.none) (Value.str (Str.ofString "waybook.table") 434) (Value.ref 337)
noncomputable def o344 : Params → Obj := fun P => Obj.mk (Value.type "code") none (Data.fields #[Value.str (Str.ofString "walked") 617, Value.str (Str.ofString "Table.walked") 618, Value.str (Str.ofString "/claim/cut.py") 619, Value.int 179 0, Value.int 3 0, Value.int 0 0, Value.int 0 0, Value.int 3 0, Value.ref 339, Value.bool true, Value.int 181 0, Value.ref 340, Value.none, Value.ref 341, Value.ref 342, Value.ref 343, Value.int 623 0, Value.int 179 0, Value.str (Str.ofString "/claim/cut.py") 624]) #[]
noncomputable def o345 : Params → Obj := fun _ => fob (sAt PySem.Challenge.pw_uf040016_07.main.body [19, 19]) (Str.ofString "Table.walked") (Value.none) (Value.str (Str.ofString "waybook.table") 434) (Value.ref 344)
noncomputable def o351 : Params → Obj := fun P => Obj.mk (Value.type "code") none (Data.fields #[Value.str (Str.ofString "ask_by") 626, Value.str (Str.ofString "Table.ask_by") 627, Value.str (Str.ofString "/claim/cut.py") 628, Value.int 182 0, Value.int 3 0, Value.int 0 0, Value.int 0 0, Value.int 3 0, Value.ref 346, Value.bool true, Value.int 181 0, Value.ref 347, Value.none, Value.ref 348, Value.ref 349, Value.ref 350, Value.int 632 0, Value.int 182 0, Value.str (Str.ofString "/claim/cut.py") 633]) #[]
noncomputable def o352 : Params → Obj := fun _ => fob (sAt PySem.Challenge.pw_uf040016_07.main.body [19, 20]) (Str.ofString "Table.ask_by") (Value.none) (Value.str (Str.ofString "waybook.table") 434) (Value.ref 351)
noncomputable def o358 : Params → Obj := fun P => Obj.mk (Value.type "code") none (Data.fields #[Value.str (Str.ofString "ask") 635, Value.str (Str.ofString "Table.ask") 636, Value.str (Str.ofString "/claim/cut.py") 637, Value.int 185 0, Value.int 2 0, Value.int 0 0, Value.int 0 0, Value.int 3 0, Value.ref 353, Value.bool true, Value.int 181 0, Value.ref 354, Value.none, Value.ref 355, Value.ref 356, Value.ref 357, Value.int 640 0, Value.int 185 0, Value.str (Str.ofString "/claim/cut.py") 641]) #[]
noncomputable def o359 : Params → Obj := fun _ => fob (sAt PySem.Challenge.pw_uf040016_07.main.body [19, 21]) (Str.ofString "Table.ask") (Value.none) (Value.str (Str.ofString "waybook.table") 434) (Value.ref 358)
noncomputable def o361 : Params → Obj := fun P => Obj.mk (Value.type "dict") none (Data.dict #[DictEntry.mk (PyData.keyHash P (Str.ofString "__module__")) (Value.str (Str.ofString "__module__") 449) (Value.str (Str.ofString "waybook.table") 434), DictEntry.mk (PyData.keyHash P (Str.ofString "__firstlineno__")) (Value.str (Str.ofString "__firstlineno__") 453) (Value.int 74 452), DictEntry.mk (PyData.keyHash P (Str.ofString "__init__")) (Value.str (Str.ofString "__init__") 461) (Value.ref 214), DictEntry.mk (PyData.keyHash P (Str.ofString "has_column")) (Value.str (Str.ofString "has_column") 469) (Value.ref 221), DictEntry.mk (PyData.keyHash P (Str.ofString "need_row")) (Value.str (Str.ofString "need_row") 477) (Value.ref 228), DictEntry.mk (PyData.keyHash P (Str.ofString "is_triple")) (Value.str (Str.ofString "is_triple") 485) (Value.ref 235), DictEntry.mk (PyData.keyHash P (Str.ofString "need_wish")) (Value.str (Str.ofString "need_wish") 493) (Value.ref 242), DictEntry.mk (PyData.keyHash P (Str.ofString "is_order")) (Value.str (Str.ofString "is_order") 502) (Value.ref 249), DictEntry.mk (PyData.keyHash P (Str.ofString "kept_of")) (Value.str (Str.ofString "kept_of") 510) (Value.ref 256), DictEntry.mk (PyData.keyHash P (Str.ofString "put")) (Value.str (Str.ofString "put") 521) (Value.ref 263), DictEntry.mk (PyData.keyHash P (Str.ofString "drop")) (Value.str (Str.ofString "drop") 531) (Value.ref 270), DictEntry.mk (PyData.keyHash P (Str.ofString "change")) (Value.str (Str.ofString "change") 544) (Value.ref 277), DictEntry.mk (PyData.keyHash P (Str.ofString "row")) (Value.str (Str.ofString "row") 552) (Value.ref 284), DictEntry.mk (PyData.keyHash P (Str.ofString "numbers")) (Value.str (Str.ofString "numbers") 559) (Value.ref 291), DictEntry.mk (PyData.keyHash P (Str.ofString "tell")) (Value.str (Str.ofString "tell") 569) (Value.ref 298), DictEntry.mk (PyData.keyHash P (Str.ofString "forget")) (Value.str (Str.ofString "forget") 577) (Value.ref 305), DictEntry.mk (PyData.keyHash P (Str.ofString "orders")) (Value.str (Str.ofString "orders") 583) (Value.ref 310), DictEntry.mk (PyData.keyHash P (Str.ofString "listed")) (Value.str (Str.ofString "listed") 591) (Value.ref 317), DictEntry.mk (PyData.keyHash P (Str.ofString "cost_of")) (Value.str (Str.ofString "cost_of") 600) (Value.ref 324), DictEntry.mk (PyData.keyHash P (Str.ofString "costs")) (Value.str (Str.ofString "costs") 608) (Value.ref 331), DictEntry.mk (PyData.keyHash P (Str.ofString "plan")) (Value.str (Str.ofString "plan") 616) (Value.ref 338), DictEntry.mk (PyData.keyHash P (Str.ofString "walked")) (Value.str (Str.ofString "walked") 625) (Value.ref 345), DictEntry.mk (PyData.keyHash P (Str.ofString "ask_by")) (Value.str (Str.ofString "ask_by") 634) (Value.ref 352), DictEntry.mk (PyData.keyHash P (Str.ofString "ask")) (Value.str (Str.ofString "ask") 642) (Value.ref 359), DictEntry.mk (PyData.keyHash P (Str.ofString "__static_attributes__")) (Value.str (Str.ofString "__static_attributes__") 647) (Value.ref 360), DictEntry.mk (PyData.keyHash P (Str.ofString "__dict__")) (Value.str (Str.ofString "__dict__") 649) (Value.ref 363), DictEntry.mk (PyData.keyHash P (Str.ofString "__weakref__")) (Value.str (Str.ofString "__weakref__") 651) (Value.ref 364), DictEntry.mk (PyData.keyHash P (Str.ofString "__doc__")) (Value.str (Str.ofString "__doc__") 652) Value.none] 4) #[]
noncomputable def o362 : Params → Obj := fun P => Obj.mk (Value.type "type") none (Data.cls (ClassData.mk (Str.ofString "Table") [Value.type "object"] [Value.ref 362, Value.type "object"] 361 (Str.ofString "Table") true [] [] false none false)) #[none, none, some (Value.str (Str.ofString "Table") 442), some (Value.str (Str.ofString "Table") 450), some (Value.builtin "object.__new__"), some (Value.bool true)]
noncomputable def o363 : Params → Obj := fun P => Obj.mk (Value.type "getset_descriptor") none (Data.fields #[Value.str (Str.ofString "__dict__") 648, Value.ref 362, Value.builtin "function.__dict__", Value.builtin "function.__dict__#set"]) #[]
noncomputable def o364 : Params → Obj := fun P => Obj.mk (Value.type "getset_descriptor") none (Data.fields #[Value.str (Str.ofString "__weakref__") 650, Value.ref 362, Value.builtin "ExceptionGroup.__weakref__", Value.none]) #[]
noncomputable def o372 : Params → Obj := fun P => Obj.mk (Value.type "code") none (Data.fields #[Value.str (Str.ofString "_law_whole") 657, Value.str (Str.ofString "_law_whole") 658, Value.str (Str.ofString "/claim/cut.py") 659, Value.int 188 0, Value.int 1 0, Value.int 0 0, Value.int 0 0, Value.int 3 0, Value.ref 367, Value.bool true, Value.int 181 0, Value.ref 368, Value.none, Value.ref 369, Value.ref 370, Value.ref 371, Value.int 661 0, Value.int 188 0, Value.str (Str.ofString "/claim/cut.py") 662]) #[]
noncomputable def o373 : Params → Obj := fun _ => fob (sAt PySem.Challenge.pw_uf040016_07.main.body [21]) (Str.ofString "_law_whole") (Value.none) (Value.str (Str.ofString "law_uf040016_07") 655) (Value.ref 372)
noncomputable def o379 : Params → Obj := fun P => Obj.mk (Value.type "code") none (Data.fields #[Value.str (Str.ofString "_law_at") 664, Value.str (Str.ofString "_law_at") 665, Value.str (Str.ofString "/claim/cut.py") 666, Value.int 190 0, Value.int 2 0, Value.int 0 0, Value.int 0 0, Value.int 3 0, Value.ref 374, Value.bool true, Value.int 181 0, Value.ref 375, Value.none, Value.ref 376, Value.ref 377, Value.ref 378, Value.int 669 0, Value.int 190 0, Value.str (Str.ofString "/claim/cut.py") 670]) #[]
noncomputable def o380 : Params → Obj := fun _ => fob (sAt PySem.Challenge.pw_uf040016_07.main.body [22]) (Str.ofString "_law_at") (Value.none) (Value.str (Str.ofString "law_uf040016_07") 655) (Value.ref 379)
noncomputable def o386 : Params → Obj := fun P => Obj.mk (Value.type "code") none (Data.fields #[Value.str (Str.ofString "_law_value") 672, Value.str (Str.ofString "_law_value") 673, Value.str (Str.ofString "/claim/cut.py") 674, Value.int 194 0, Value.int 1 0, Value.int 0 0, Value.int 0 0, Value.int 3 0, Value.ref 381, Value.bool true, Value.int 181 0, Value.ref 382, Value.none, Value.ref 383, Value.ref 384, Value.ref 385, Value.int 676 0, Value.int 194 0, Value.str (Str.ofString "/claim/cut.py") 677]) #[]
noncomputable def o387 : Params → Obj := fun _ => fob (sAt PySem.Challenge.pw_uf040016_07.main.body [23]) (Str.ofString "_law_value") (Value.none) (Value.str (Str.ofString "law_uf040016_07") 655) (Value.ref 386)
noncomputable def o391 : Params → Obj := fun P => Obj.mk (Value.type "code") none (Data.fields #[Value.str (Str.ofString "_law_row") 679, Value.str (Str.ofString "_law_row") 680, Value.str (Str.ofString "/claim/cut.py") 681, Value.int 208 0, Value.int 2 0, Value.int 0 0, Value.int 0 0, Value.int 3 0, Value.ref 388, Value.bool true, Value.int 181 0, Value.ref 389, Value.none, Value.none, Value.none, Value.ref 390, Value.int 682 0, Value.int 208 0, Value.str (Str.ofString "/claim/cut.py") 683]) #[]
noncomputable def o392 : Params → Obj := fun _ => fob (sAt PySem.Challenge.pw_uf040016_07.main.body [24]) (Str.ofString "_law_row") (Value.none) (Value.str (Str.ofString "law_uf040016_07") 655) (Value.ref 391)
noncomputable def o398 : Params → Obj := fun P => Obj.mk (Value.type "code") none (Data.fields #[Value.str (Str.ofString "_law_same") 685, Value.str (Str.ofString "_law_same") 686, Value.str (Str.ofString "/claim/cut.py") 687, Value.int 210 0, Value.int 2 0, Value.int 0 0, Value.int 0 0, Value.int 3 0, Value.ref 393, Value.bool true, Value.int 181 0, Value.ref 394, Value.none, Value.ref 395, Value.ref 396, Value.ref 397, Value.int 691 0, Value.int 210 0, Value.str (Str.ofString "/claim/cut.py") 692]) #[]
noncomputable def o399 : Params → Obj := fun _ => fob (sAt PySem.Challenge.pw_uf040016_07.main.body [25]) (Str.ofString "_law_same") (Value.none) (Value.str (Str.ofString "law_uf040016_07") 655) (Value.ref 398)
noncomputable def o405 : Params → Obj := fun P => Obj.mk (Value.type "code") none (Data.fields #[Value.str (Str.ofString "_law_said") 694, Value.str (Str.ofString "_law_said") 695, Value.str (Str.ofString "/claim/cut.py") 696, Value.int 217 0, Value.int 5 0, Value.int 0 0, Value.int 0 0, Value.int 3 0, Value.ref 400, Value.bool true, Value.int 181 0, Value.ref 401, Value.none, Value.ref 402, Value.ref 403, Value.ref 404, Value.int 702 0, Value.int 217 0, Value.str (Str.ofString "/claim/cut.py") 703]) #[]
noncomputable def o406 : Params → Obj := fun _ => fob (sAt PySem.Challenge.pw_uf040016_07.main.body [26]) (Str.ofString "_law_said") (Value.none) (Value.str (Str.ofString "law_uf040016_07") 655) (Value.ref 405)
noncomputable def o412 : Params → Obj := fun P => Obj.mk (Value.type "code") none (Data.fields #[Value.str (Str.ofString "_law_any") 705, Value.str (Str.ofString "_law_any") 706, Value.str (Str.ofString "/claim/cut.py") 707, Value.int 230 0, Value.int 2 0, Value.int 0 0, Value.int 0 0, Value.int 3 0, Value.ref 407, Value.bool true, Value.int 181 0, Value.ref 408, Value.none, Value.ref 409, Value.ref 410, Value.ref 411, Value.int 711 0, Value.int 230 0, Value.str (Str.ofString "/claim/cut.py") 712]) #[]
noncomputable def o413 : Params → Obj := fun _ => fob (sAt PySem.Challenge.pw_uf040016_07.main.body [27]) (Str.ofString "_law_any") (Value.none) (Value.str (Str.ofString "law_uf040016_07") 655) (Value.ref 412)
noncomputable def o419 : Params → Obj := fun P => Obj.mk (Value.type "code") none (Data.fields #[Value.str (Str.ofString "_law_deed") 714, Value.str (Str.ofString "_law_deed") 715, Value.str (Str.ofString "/claim/cut.py") 716, Value.int 236 0, Value.int 4 0, Value.int 0 0, Value.int 0 0, Value.int 3 0, Value.ref 414, Value.bool true, Value.int 181 0, Value.ref 415, Value.none, Value.ref 416, Value.ref 417, Value.ref 418, Value.int 729 0, Value.int 236 0, Value.str (Str.ofString "/claim/cut.py") 730]) #[]
noncomputable def o420 : Params → Obj := fun _ => fob (sAt PySem.Challenge.pw_uf040016_07.main.body [28]) (Str.ofString "_law_deed") (Value.none) (Value.str (Str.ofString "law_uf040016_07") 655) (Value.ref 419)
noncomputable def o426 : Params → Obj := fun P => Obj.mk (Value.type "code") none (Data.fields #[Value.str (Str.ofString "law") 732, Value.str (Str.ofString "law") 733, Value.str (Str.ofString "/claim/cut.py") 734, Value.int 269 0, Value.int 1 0, Value.int 0 0, Value.int 0 0, Value.int 3 0, Value.ref 421, Value.bool true, Value.int 181 0, Value.ref 422, Value.none, Value.ref 423, Value.ref 424, Value.ref 425, Value.int 746 0, Value.int 269 0, Value.str (Str.ofString "/claim/cut.py") 747]) #[]
noncomputable def o427 : Params → Obj := fun _ => fob (sAt PySem.Challenge.pw_uf040016_07.main.body [29]) (Str.ofString "law") (Value.none) (Value.str (Str.ofString "law_uf040016_07") 655) (Value.ref 426)
noncomputable def K : Params → Frag := fun P => (nat_lit 2, o2 P) :: (nat_lit 3, o3 P) :: (nat_lit 20, o20 P) :: (nat_lit 21, o21 P) :: (nat_lit 30, o30 P) :: (nat_lit 31, o31 P) :: (nat_lit 32, o32 P) :: (nat_lit 43, o43 P) :: (nat_lit 44, o44 P) :: (nat_lit 55, o55 P) :: (nat_lit 56, o56 P) :: (nat_lit 67, o67 P) :: (nat_lit 68, o68 P) :: (nat_lit 79, o79 P) :: (nat_lit 80, o80 P) :: (nat_lit 91, o91 P) :: (nat_lit 92, o92 P) :: (nat_lit 103, o103 P) :: (nat_lit 104, o104 P) :: (nat_lit 112, o112 P) :: (nat_lit 113, o113 P) :: (nat_lit 119, o119 P) :: (nat_lit 120, o120 P) :: (nat_lit 126, o126 P) :: (nat_lit 127, o127 P) :: (nat_lit 140, o140 P) :: (nat_lit 141, o141 P) :: (nat_lit 145, o145 P) :: (nat_lit 146, o146 P) :: (nat_lit 152, o152 P) :: (nat_lit 153, o153 P) :: (nat_lit 159, o159 P) :: (nat_lit 160, o160 P) :: (nat_lit 164, o164 P) :: (nat_lit 165, o165 P) :: (nat_lit 171, o171 P) :: (nat_lit 172, o172 P) :: (nat_lit 178, o178 P) :: (nat_lit 179, o179 P) :: (nat_lit 185, o185 P) :: (nat_lit 186, o186 P) :: (nat_lit 192, o192 P) :: (nat_lit 193, o193 P) :: (nat_lit 195, o195 P) :: (nat_lit 196, o196 P) :: (nat_lit 197, o197 P) :: (nat_lit 198, o198 P) :: (nat_lit 213, o213 P) :: (nat_lit 214, o214 P) :: (nat_lit 220, o220 P) :: (nat_lit 221, o221 P) :: (nat_lit 227, o227 P) :: (nat_lit 228, o228 P) :: (nat_lit 234, o234 P) :: (nat_lit 235, o235 P) :: (nat_lit 241, o241 P) :: (nat_lit 242, o242 P) :: (nat_lit 248, o248 P) :: (nat_lit 249, o249 P) :: (nat_lit 255, o255 P) :: (nat_lit 256, o256 P) :: (nat_lit 262, o262 P) :: (nat_lit 263, o263 P) :: (nat_lit 269, o269 P) :: (nat_lit 270, o270 P) :: (nat_lit 276, o276 P) :: (nat_lit 277, o277 P) :: (nat_lit 283, o283 P) :: (nat_lit 284, o284 P) :: (nat_lit 290, o290 P) :: (nat_lit 291, o291 P) :: (nat_lit 297, o297 P) :: (nat_lit 298, o298 P) :: (nat_lit 304, o304 P) :: (nat_lit 305, o305 P) :: (nat_lit 309, o309 P) :: (nat_lit 310, o310 P) :: (nat_lit 316, o316 P) :: (nat_lit 317, o317 P) :: (nat_lit 323, o323 P) :: (nat_lit 324, o324 P) :: (nat_lit 330, o330 P) :: (nat_lit 331, o331 P) :: (nat_lit 337, o337 P) :: (nat_lit 338, o338 P) :: (nat_lit 344, o344 P) :: (nat_lit 345, o345 P) :: (nat_lit 351, o351 P) :: (nat_lit 352, o352 P) :: (nat_lit 358, o358 P) :: (nat_lit 359, o359 P) :: (nat_lit 361, o361 P) :: (nat_lit 362, o362 P) :: (nat_lit 363, o363 P) :: (nat_lit 364, o364 P) :: (nat_lit 372, o372 P) :: (nat_lit 373, o373 P) :: (nat_lit 379, o379 P) :: (nat_lit 380, o380 P) :: (nat_lit 386, o386 P) :: (nat_lit 387, o387 P) :: (nat_lit 391, o391 P) :: (nat_lit 392, o392 P) :: (nat_lit 398, o398 P) :: (nat_lit 399, o399 P) :: (nat_lit 405, o405 P) :: (nat_lit 406, o406 P) :: (nat_lit 412, o412 P) :: (nat_lit 413, o413 P) :: (nat_lit 419, o419 P) :: (nat_lit 420, o420 P) :: (nat_lit 426, o426 P) :: (nat_lit 427, o427 P) :: []
noncomputable abbrev as : List Addr := [nat_lit 2, nat_lit 3, nat_lit 20, nat_lit 21, nat_lit 30, nat_lit 31, nat_lit 32, nat_lit 43, nat_lit 44, nat_lit 55, nat_lit 56, nat_lit 67, nat_lit 68, nat_lit 79, nat_lit 80, nat_lit 91, nat_lit 92, nat_lit 103, nat_lit 104, nat_lit 112, nat_lit 113, nat_lit 119, nat_lit 120, nat_lit 126, nat_lit 127, nat_lit 140, nat_lit 141, nat_lit 145, nat_lit 146, nat_lit 152, nat_lit 153, nat_lit 159, nat_lit 160, nat_lit 164, nat_lit 165, nat_lit 171, nat_lit 172, nat_lit 178, nat_lit 179, nat_lit 185, nat_lit 186, nat_lit 192, nat_lit 193, nat_lit 195, nat_lit 196, nat_lit 197, nat_lit 198, nat_lit 213, nat_lit 214, nat_lit 220, nat_lit 221, nat_lit 227, nat_lit 228, nat_lit 234, nat_lit 235, nat_lit 241, nat_lit 242, nat_lit 248, nat_lit 249, nat_lit 255, nat_lit 256, nat_lit 262, nat_lit 263, nat_lit 269, nat_lit 270, nat_lit 276, nat_lit 277, nat_lit 283, nat_lit 284, nat_lit 290, nat_lit 291, nat_lit 297, nat_lit 298, nat_lit 304, nat_lit 305, nat_lit 309, nat_lit 310, nat_lit 316, nat_lit 317, nat_lit 323, nat_lit 324, nat_lit 330, nat_lit 331, nat_lit 337, nat_lit 338, nat_lit 344, nat_lit 345, nat_lit 351, nat_lit 352, nat_lit 358, nat_lit 359, nat_lit 361, nat_lit 362, nat_lit 363, nat_lit 364, nat_lit 372, nat_lit 373, nat_lit 379, nat_lit 380, nat_lit 386, nat_lit 387, nat_lit 391, nat_lit 392, nat_lit 398, nat_lit 399, nat_lit 405, nat_lit 406, nat_lit 412, nat_lit 413, nat_lit 419, nat_lit 420, nat_lit 426, nat_lit 427]
theorem as_eq : ∀ P, as = (K P).map (·.1) := fun _ => by kernel_rfl
noncomputable def T0 : Params → BT := fun P => (.node (boot_o_0 P) (.node (boot_o_1 P) (.node (boot_o_3 P) (.node (boot_o_7 P) .nil .nil) .nil) (.node (boot_o_5 P) (.node (boot_o_9 P) .nil .nil) .nil)) (.node (boot_o_2 P) (.node (boot_o_4 P) (.node (boot_o_8 P) .nil .nil) .nil) (.node (boot_o_6 P) (.node (boot_o_10 P) .nil .nil) .nil)))
noncomputable abbrev q : Program := view PySem.Challenge.pw_uf040016_07 [0, 2, 3, 4, 5, 6, 7, 8, 10, 11, 12, 14, 16, 17, 18, 19, 21, 22, 23, 24, 25, 26, 27, 28, 29]
noncomputable abbrev H : Hook := kHook K as as_eq
set_option linter.unusedVariables true
theorem run (w : World) : (fun os => (topG through (stepOk 11 (some (.ref 6))) (stepT (denote treeTable) PySem.Challenge.pw_uf040016_07 w) 3641 ⟨T0 w.params, 11, {}, Array.mk [], boot_drawn, boot_toks, os⟩ (topStub PySem.Challenge.pw_uf040016_07)).map (fun s =>
    ((staticsOk (importedModules PySem.Challenge.pw_uf040016_07.main.body) (boot_heap w.params) s.abs.heap && namesBound PySem.Challenge.pw_uf040016_07 s.abs.heap && gensDone s.abs && laidKept (boot_heap w.params) s.abs.heap),
      openSeen (view PySem.Challenge.pw_uf040016_07 [0, 2, 3, 4, 5, 6, 7, 8, 10, 11, 12, 14, 16, 17, 18, 19, 21, 22, 23, 24, 25, 26, 27, 28, 29]) [] (importedModules PySem.Challenge.pw_uf040016_07.main.body) (fun s => xlAt (view PySem.Challenge.pw_uf040016_07 [0, 2, 3, 4, 5, 6, 7, 8, 10, 11, 12, 14, 16, 17, 18, 19, 21, 22, 23, 24, 25, 26, 27, 28, 29]) [] s && recOk [] s) true s.abs, as.map s.abs.heap.get?))) = fun _ => some (true, openGood (view PySem.Challenge.pw_uf040016_07 [0, 2, 3, 4, 5, 6, 7, 8, 10, 11, 12, 14, 16, 17, 18, 19, 21, 22, 23, 24, 25, 26, 27, 28, 29]) [], (K w.params).map fun x => some x.2) := by
  rw [PySem.W.Fast.te6613529449190102663, PySem.W.Fast.te10156331382660048174, PySem.W.Fast.te11892475500146522536, PySem.W.Fast.te14364793385576792824, PySem.W.Fast.te4187177175401517315, PySem.W.Fast.te5923862056798008813]
  kernel_rfl
theorem left : LeftO PySem.Challenge.pw_uf040016_07 q [] (fun s => xlAt q [] s && recOk [] s) (Hook.obs H) (Hook.val H) 3641 :=
  left_of_tree (T₀ := T0) (m₀ := 11) (M := 3641) (li := {}) (ann := some (.ref 6)) (by kernel_rfl) (by decide) (fun _ => by kernel_rfl) (fun _ => by kernel_rfl) (fun _ => by kernel_rfl) (by decide) run
end Mine.L07
end
open PySem PySem.W PyProof.Rows
set_option Elab.async false
namespace Mine.L07
set_option maxRecDepth 100000
set_option maxHeartbeats 4000000
theorem fill : PySem.Challenge.rw_uf040016_07 = PySem.Challenge.rw_uf040016_07 ∧ K = K := by
  k_fill
  exact ⟨rfl, rfl⟩

noncomputable def gv : Nat → Value
  | 0 => .builtin "isinstance"
  | 1 => .type "int"
  | 2 => .type "bool"
  | 3 => .ref 113
  | 4 => .int 6 436
  | 5 => .ref 44
  | 6 => .ref 80
  | 7 => .type "list"
  | 8 => .type "tuple"
  | 9 => .builtin "len"
  | 10 => .ref 56
  | 11 => .int 200 438
  | 12 => .ref 68
  | 17 => .ref 92
  | 18 => .builtin "sorted"
  | 19 => .type "range"
  | 20 => .ref 387
  | 21 => .ref 373
  | 25 => .ref 31
  | 26 => .type "ValueError"
  | 27 => .ref 406
  | 28 => .ref 413
  | 29 => .ref 399
  | 31 => .ref 362
  | 32 => .ref 380
  | 33 => .ref 392
  | 35 => .ref 420
  | _ => .none
noncomputable abbrev gl : List Nat := [0, 1, 2, 3, 4, 5, 6, 7, 8, 9, 10, 11, 12, 17, 18, 19, 20, 21, 25, 26, 27, 28, 29, 31, 32, 33, 35]
noncomputable abbrev tb (nm : Nat → Str) (fns : List Nat) (at_ se : List (Nat × Str)) (me : List (Nat × Str × Nat)) (ne ex : List (Nat × Nat)) (su : List (Nat × List Nat × List Nat)) : Tb := { N := ⟨nm, gn⟩, gv := gv, gl := gl, fns := fns, attrs := at_, sets := se, meths := me, news := ne, excs := ex, subs := su }

theorem globs (c : Bx) (KX : (K c.w.params).In c.b) (B : ∀ x : Str, x ≠ "__name__" → c.mb x = bootBuiltins x) : ∀ g ∈ gl, c.glob (gn g) = some (gv g) := by
  refine List.forall_mem_cons.mpr ⟨globB (x := Str.ofString "isinstance") (mg_none_of (n := Str.ofString "isinstance") KX c.hg (by k_is)) B (by decide) (by boot_by_name), ?_⟩
  refine List.forall_mem_cons.mpr ⟨globB (x := Str.ofString "int") (mg_none_of (n := Str.ofString "int") KX c.hg (by k_is)) B (by decide) (by boot_by_name), ?_⟩
  refine List.forall_mem_cons.mpr ⟨globB (x := Str.ofString "bool") (mg_none_of (n := Str.ofString "bool") KX c.hg (by k_is)) B (by decide) (by boot_by_name), ?_⟩
  refine List.forall_mem_cons.mpr ⟨globF (mg_of (n := Str.ofString "is_whole") KX c.hg (by k_is)), ?_⟩
  refine List.forall_mem_cons.mpr ⟨globF (mg_of (n := Str.ofString "MOST_WIDTH") KX c.hg (by k_is)), ?_⟩
  refine List.forall_mem_cons.mpr ⟨globF (mg_of (n := Str.ofString "BadWidth") KX c.hg (by k_is)), ?_⟩
  refine List.forall_mem_cons.mpr ⟨globF (mg_of (n := Str.ofString "NoRow") KX c.hg (by k_is)), ?_⟩
  refine List.forall_mem_cons.mpr ⟨globB (x := Str.ofString "list") (mg_none_of (n := Str.ofString "list") KX c.hg (by k_is)) B (by decide) (by boot_by_name), ?_⟩
  refine List.forall_mem_cons.mpr ⟨globB (x := Str.ofString "tuple") (mg_none_of (n := Str.ofString "tuple") KX c.hg (by k_is)) B (by decide) (by boot_by_name), ?_⟩
  refine List.forall_mem_cons.mpr ⟨globB (x := Str.ofString "len") (mg_none_of (n := Str.ofString "len") KX c.hg (by k_is)) B (by decide) (by boot_by_name), ?_⟩
  refine List.forall_mem_cons.mpr ⟨globF (mg_of (n := Str.ofString "BadRow") KX c.hg (by k_is)), ?_⟩
  refine List.forall_mem_cons.mpr ⟨globF (mg_of (n := Str.ofString "MOST_ROWS") KX c.hg (by k_is)), ?_⟩
  refine List.forall_mem_cons.mpr ⟨globF (mg_of (n := Str.ofString "Full") KX c.hg (by k_is)), ?_⟩
  refine List.forall_mem_cons.mpr ⟨globF (mg_of (n := Str.ofString "BadColumn") KX c.hg (by k_is)), ?_⟩
  refine List.forall_mem_cons.mpr ⟨globB (x := Str.ofString "sorted") (mg_none_of (n := Str.ofString "sorted") KX c.hg (by k_is)) B (by decide) (by boot_by_name), ?_⟩
  refine List.forall_mem_cons.mpr ⟨globB (x := Str.ofString "range") (mg_none_of (n := Str.ofString "range") KX c.hg (by k_is)) B (by decide) (by boot_by_name), ?_⟩
  refine List.forall_mem_cons.mpr ⟨globF (mg_of (n := Str.ofString "_law_value") KX c.hg (by k_is)), ?_⟩
  refine List.forall_mem_cons.mpr ⟨globF (mg_of (n := Str.ofString "_law_whole") KX c.hg (by k_is)), ?_⟩
  refine List.forall_mem_cons.mpr ⟨globF (mg_of (n := Str.ofString "BookError") KX c.hg (by k_is)), ?_⟩
  refine List.forall_mem_cons.mpr ⟨globB (x := Str.ofString "ValueError") (mg_none_of (n := Str.ofString "ValueError") KX c.hg (by k_is)) B (by decide) (by boot_by_name), ?_⟩
  refine List.forall_mem_cons.mpr ⟨globF (mg_of (n := Str.ofString "_law_said") KX c.hg (by k_is)), ?_⟩
  refine List.forall_mem_cons.mpr ⟨globF (mg_of (n := Str.ofString "_law_any") KX c.hg (by k_is)), ?_⟩
  refine List.forall_mem_cons.mpr ⟨globF (mg_of (n := Str.ofString "_law_same") KX c.hg (by k_is)), ?_⟩
  refine List.forall_mem_cons.mpr ⟨globF (mg_of (n := Str.ofString "Table") KX c.hg (by k_is)), ?_⟩
  refine List.forall_mem_cons.mpr ⟨globF (mg_of (n := Str.ofString "_law_at") KX c.hg (by k_is)), ?_⟩
  refine List.forall_mem_cons.mpr ⟨globF (mg_of (n := Str.ofString "_law_row") KX c.hg (by k_is)), ?_⟩
  refine List.forall_mem_cons.mpr ⟨globF (mg_of (n := Str.ofString "_law_deed") KX c.hg (by k_is)), ?_⟩
  intro g hg; cases hg

theorem A_362_following (p : Params) : AttrOk (K p) 362 "following" := ⟨by k_is, by k_is, _, by k_is, by k_is⟩
theorem A_362_kept (p : Params) : AttrOk (K p) 362 "kept" := ⟨by k_is, by k_is, _, by k_is, by k_is⟩
theorem A_362_there (p : Params) : AttrOk (K p) 362 "there" := ⟨by k_is, by k_is, _, by k_is, by k_is⟩
theorem A_362_width (p : Params) : AttrOk (K p) 362 "width" := ⟨by k_is, by k_is, _, by k_is, by k_is⟩
theorem T_362_following (p : Params) : SetOk (K p) 362 "following" := ⟨by k_is, by k_is, by k_is, by k_is⟩
theorem T_362_kept (p : Params) : SetOk (K p) 362 "kept" := ⟨by k_is, by k_is, by k_is, by k_is⟩
theorem T_362_there (p : Params) : SetOk (K p) 362 "there" := ⟨by k_is, by k_is, by k_is, by k_is⟩
theorem T_362_width (p : Params) : SetOk (K p) 362 "width" := ⟨by k_is, by k_is, by k_is, by k_is⟩
theorem M_196_drop (p : Params) : MethOk (K p) 196 "drop" 160 := ⟨by k_is, by k_is, by k_is, by k_is⟩
theorem M_196_put (p : Params) : MethOk (K p) 196 "put" 153 := ⟨by k_is, by k_is, by k_is, by k_is⟩
theorem M_362_change (p : Params) : MethOk (K p) 362 "change" 277 := ⟨by k_is, by k_is, by k_is, by k_is⟩
theorem M_362_drop (p : Params) : MethOk (K p) 362 "drop" 270 := ⟨by k_is, by k_is, by k_is, by k_is⟩
theorem M_362_has_column (p : Params) : MethOk (K p) 362 "has_column" 221 := ⟨by k_is, by k_is, by k_is, by k_is⟩
theorem M_362_need_row (p : Params) : MethOk (K p) 362 "need_row" 228 := ⟨by k_is, by k_is, by k_is, by k_is⟩
theorem M_362_numbers (p : Params) : MethOk (K p) 362 "numbers" 291 := ⟨by k_is, by k_is, by k_is, by k_is⟩
theorem M_362_put (p : Params) : MethOk (K p) 362 "put" 263 := ⟨by k_is, by k_is, by k_is, by k_is⟩
theorem M_362_row (p : Params) : MethOk (K p) 362 "row" 284 := ⟨by k_is, by k_is, by k_is, by k_is⟩
theorem N_362 (p : Params) : NewOk (K p) 362 214 := ⟨by k_is, by k_is, by k_is, by k_is⟩
theorem E_31 (c : Bx) (KX : (K c.w.params).In c.b) : Exc c.b 31 [.type "ValueError", .type "Exception", .type "BaseException", .type "object"] := exc_of_in KX (by kernel_rfl) (by kernel_rfl)
theorem E_44 (c : Bx) (KX : (K c.w.params).In c.b) : Exc c.b 44 [.ref 31, .type "ValueError", .type "Exception", .type "BaseException", .type "object"] := exc_of_in KX (by kernel_rfl) (by kernel_rfl)
theorem E_56 (c : Bx) (KX : (K c.w.params).In c.b) : Exc c.b 56 [.ref 31, .type "ValueError", .type "Exception", .type "BaseException", .type "object"] := exc_of_in KX (by kernel_rfl) (by kernel_rfl)
theorem E_68 (c : Bx) (KX : (K c.w.params).In c.b) : Exc c.b 68 [.ref 31, .type "ValueError", .type "Exception", .type "BaseException", .type "object"] := exc_of_in KX (by kernel_rfl) (by kernel_rfl)
theorem E_80 (c : Bx) (KX : (K c.w.params).In c.b) : Exc c.b 80 [.ref 31, .type "ValueError", .type "Exception", .type "BaseException", .type "object"] := exc_of_in KX (by kernel_rfl) (by kernel_rfl)
theorem E_92 (c : Bx) (KX : (K c.w.params).In c.b) : Exc c.b 92 [.ref 31, .type "ValueError", .type "Exception", .type "BaseException", .type "object"] := exc_of_in KX (by kernel_rfl) (by kernel_rfl)

theorem V_kput (c : Bx) (hK : c.K = K c.w.params) (KX : (K c.w.params).In c.b) (B : ∀ x : Str, x ≠ "__name__" → c.mb x = bootBuiltins x) : Valid c 1 153 (fun _ _ _ _ => False) := valid_no (KX 153 _ (by k_is)) rfl

theorem V_kdrop (c : Bx) (hK : c.K = K c.w.params) (KX : (K c.w.params).In c.b) (B : ∀ x : Str, x ≠ "__name__" → c.mb x = bootBuiltins x) : Valid c 1 160 (fun _ _ _ _ => False) := valid_no (KX 160 _ (by k_is)) rfl

theorem V_iswhole (c : Bx) (hK : c.K = K c.w.params) (KX : (K c.w.params).In c.b) (B : ∀ x : Str, x ≠ "__name__" → c.mb x = bootBuiltins x) : Valid c 1 113 S_whole := by
  refine fn_valid (t := tb nm_is_whole [] [] [] [] [] [] []) (S := S07) (body := p_is_whole) (vs := [0]) (ps := [0]) (nv := 1) ⟨globs c KX B, (by intro x hx; cases hx), (by intro x hx; cases hx), (by intro x hx; cases hx), (by intro x hx; cases hx), (by intro x hx; cases hx)⟩ ⟨(by intro x hx; cases hx), (by intro x hx; cases hx)⟩ ⟨rfl, rfl⟩ (KX 113 _ (by k_is)) rfl (codeRec_of KX (by k_is)) ?_ rfl rfl rfl ?_ ?_ ?_ (whole_vc S07)
  · kernel_rfl
  · kernel_rfl
  · kernel_rfl
  · intro us h
    match us, h with
    | [a], _ => rfl

theorem V_tinit (c : Bx) (hK : c.K = K c.w.params) (KX : (K c.w.params).In c.b) (B : ∀ x : Str, x ≠ "__name__" → c.mb x = bootBuiltins x) : Valid c 2 214 S_init := by
  refine fn_valid (t := tb nm_Table___init__ [3] [] [(362, "following"), (362, "kept"), (362, "there"), (362, "width")] [] [] [(5, 44)] []) (S := S07) (body := p_Table___init__) (vs := [0, 1]) (ps := [0, 1]) (nv := 2) ⟨globs c KX B, List.forall_mem_cons.mpr ⟨⟨_, rfl, (V_iswhole c hK KX B).mono (by decide)⟩, (by intro x hx; cases hx)⟩, (by intro x hx; cases hx), List.forall_mem_cons.mpr ⟨(by rw [hK]; exact T_362_following _), List.forall_mem_cons.mpr ⟨(by rw [hK]; exact T_362_kept _), List.forall_mem_cons.mpr ⟨(by rw [hK]; exact T_362_there _), List.forall_mem_cons.mpr ⟨(by rw [hK]; exact T_362_width _), (by intro x hx; cases hx)⟩⟩⟩⟩, (by intro x hx; cases hx), (by intro x hx; cases hx)⟩ ⟨List.forall_mem_cons.mpr ⟨⟨rfl, _, E_44 c KX⟩, (by intro x hx; cases hx)⟩, (by intro x hx; cases hx)⟩ ⟨rfl, rfl⟩ (KX 214 _ (by k_is)) rfl (codeRec_of KX (by k_is)) ?_ rfl rfl rfl ?_ ?_ ?_ (init_vc S07 rfl)
  · kernel_rfl
  · kernel_rfl
  · kernel_rfl
  · intro us h
    match us, h with
    | [a, b], _ => rfl

theorem V_hascol (c : Bx) (hK : c.K = K c.w.params) (KX : (K c.w.params).In c.b) (B : ∀ x : Str, x ≠ "__name__" → c.mb x = bootBuiltins x) : Valid c 2 221 S_hascol := by
  refine fn_valid (t := tb nm_Table_has_column [3] [(362, "width")] [] [] [] [] []) (S := S07) (body := p_Table_has_column) (vs := [0, 1]) (ps := [0, 1]) (nv := 2) ⟨globs c KX B, List.forall_mem_cons.mpr ⟨⟨_, rfl, (V_iswhole c hK KX B).mono (by decide)⟩, (by intro x hx; cases hx)⟩, List.forall_mem_cons.mpr ⟨(by rw [hK]; exact A_362_width _), (by intro x hx; cases hx)⟩, (by intro x hx; cases hx), (by intro x hx; cases hx), (by intro x hx; cases hx)⟩ ⟨(by intro x hx; cases hx), (by intro x hx; cases hx)⟩ ⟨rfl, rfl⟩ (KX 221 _ (by k_is)) rfl (codeRec_of KX (by k_is)) ?_ rfl rfl rfl ?_ ?_ ?_ (hascol_vc S07 rfl)
  · kernel_rfl
  · kernel_rfl
  · kernel_rfl
  · intro us h
    match us, h with
    | [a, b], _ => rfl

theorem V_need (c : Bx) (hK : c.K = K c.w.params) (KX : (K c.w.params).In c.b) (B : ∀ x : Str, x ≠ "__name__" → c.mb x = bootBuiltins x) : Valid c 2 228 S_need := by
  refine fn_valid (t := tb nm_Table_need_row [3] [(362, "there")] [] [] [] [(6, 80)] []) (S := S07) (body := p_Table_need_row) (vs := [0, 1]) (ps := [0, 1]) (nv := 2) ⟨globs c KX B, List.forall_mem_cons.mpr ⟨⟨_, rfl, (V_iswhole c hK KX B).mono (by decide)⟩, (by intro x hx; cases hx)⟩, List.forall_mem_cons.mpr ⟨(by rw [hK]; exact A_362_there _), (by intro x hx; cases hx)⟩, (by intro x hx; cases hx), (by intro x hx; cases hx), (by intro x hx; cases hx)⟩ ⟨List.forall_mem_cons.mpr ⟨⟨rfl, _, E_80 c KX⟩, (by intro x hx; cases hx)⟩, (by intro x hx; cases hx)⟩ ⟨rfl, rfl⟩ (KX 228 _ (by k_is)) rfl (codeRec_of KX (by k_is)) ?_ rfl rfl rfl ?_ ?_ ?_ (need_vc S07 rfl)
  · kernel_rfl
  · kernel_rfl
  · kernel_rfl
  · intro us h
    match us, h with
    | [a, b], _ => rfl

theorem V_tput (c : Bx) (hK : c.K = K c.w.params) (KX : (K c.w.params).In c.b) (B : ∀ x : Str, x ≠ "__name__" → c.mb x = bootBuiltins x) : Valid c 2 263 S_put := by
  refine fn_valid (t := tb nm_Table_put [3] [(362, "following"), (362, "kept"), (362, "there"), (362, "width")] [(362, "following")] [(196, "put", 13)] [] [(10, 56), (12, 68)] []) (S := S07) (body := p_Table_put) (vs := [0, 1, 2, 3, 4]) (ps := [0, 1]) (nv := 5) ⟨globs c KX B, List.forall_mem_cons.mpr ⟨⟨_, rfl, (V_iswhole c hK KX B).mono (by decide)⟩, (by intro x hx; cases hx)⟩, List.forall_mem_cons.mpr ⟨(by rw [hK]; exact A_362_following _), List.forall_mem_cons.mpr ⟨(by rw [hK]; exact A_362_kept _), List.forall_mem_cons.mpr ⟨(by rw [hK]; exact A_362_there _), List.forall_mem_cons.mpr ⟨(by rw [hK]; exact A_362_width _), (by intro x hx; cases hx)⟩⟩⟩⟩, List.forall_mem_cons.mpr ⟨(by rw [hK]; exact T_362_following _), (by intro x hx; cases hx)⟩, List.forall_mem_cons.mpr ⟨⟨_, (by rw [hK]; exact M_196_put _), (V_kput c hK KX B).mono (by decide)⟩, (by intro x hx; cases hx)⟩, (by intro x hx; cases hx)⟩ ⟨List.forall_mem_cons.mpr ⟨⟨rfl, _, E_56 c KX⟩, List.forall_mem_cons.mpr ⟨⟨rfl, _, E_68 c KX⟩, (by intro x hx; cases hx)⟩⟩, (by intro x hx; cases hx)⟩ ⟨rfl, rfl⟩ (KX 263 _ (by k_is)) rfl (codeRec_of KX (by k_is)) ?_ rfl rfl rfl ?_ ?_ ?_ (put_vc S07 rfl)
  · kernel_rfl
  · kernel_rfl
  · kernel_rfl
  · intro us h
    match us, h with
    | [a, b], _ => rfl

theorem V_tdrop (c : Bx) (hK : c.K = K c.w.params) (KX : (K c.w.params).In c.b) (B : ∀ x : Str, x ≠ "__name__" → c.mb x = bootBuiltins x) : Valid c 3 270 S_drop := by
  refine fn_valid (t := tb nm_Table_drop [] [(362, "kept"), (362, "there")] [] [(196, "drop", 15), (362, "need_row", 14)] [] [] []) (S := S07) (body := p_Table_drop) (vs := [0, 1, 2, 3]) (ps := [0, 1]) (nv := 4) ⟨globs c KX B, (by intro x hx; cases hx), List.forall_mem_cons.mpr ⟨(by rw [hK]; exact A_362_kept _), List.forall_mem_cons.mpr ⟨(by rw [hK]; exact A_362_there _), (by intro x hx; cases hx)⟩⟩, (by intro x hx; cases hx), List.forall_mem_cons.mpr ⟨⟨_, (by rw [hK]; exact M_196_drop _), (V_kdrop c hK KX B).mono (by decide)⟩, List.forall_mem_cons.mpr ⟨⟨_, (by rw [hK]; exact M_362_need_row _), (V_need c hK KX B).mono (by decide)⟩, (by intro x hx; cases hx)⟩⟩, (by intro x hx; cases hx)⟩ ⟨(by intro x hx; cases hx), (by intro x hx; cases hx)⟩ ⟨rfl, rfl⟩ (KX 270 _ (by k_is)) rfl (codeRec_of KX (by k_is)) ?_ rfl rfl rfl ?_ ?_ ?_ (drop_vc S07 rfl)
  · kernel_rfl
  · kernel_rfl
  · kernel_rfl
  · intro us h
    match us, h with
    | [a, b], _ => rfl

theorem V_tchange (c : Bx) (hK : c.K = K c.w.params) (KX : (K c.w.params).In c.b) (B : ∀ x : Str, x ≠ "__name__" → c.mb x = bootBuiltins x) : Valid c 3 277 S_change := by
  refine fn_valid (t := tb nm_Table_change [3] [(362, "kept"), (362, "there")] [] [(196, "drop", 15), (196, "put", 13), (362, "has_column", 16), (362, "need_row", 14)] [] [(10, 56), (17, 92)] []) (S := S07) (body := p_Table_change) (vs := [0, 1, 2, 3, 4, 5, 6]) (ps := [0, 1, 2, 3]) (nv := 7) ⟨globs c KX B, List.forall_mem_cons.mpr ⟨⟨_, rfl, (V_iswhole c hK KX B).mono (by decide)⟩, (by intro x hx; cases hx)⟩, List.forall_mem_cons.mpr ⟨(by rw [hK]; exact A_362_kept _), List.forall_mem_cons.mpr ⟨(by rw [hK]; exact A_362_there _), (by intro x hx; cases hx)⟩⟩, (by intro x hx; cases hx), List.forall_mem_cons.mpr ⟨⟨_, (by rw [hK]; exact M_196_drop _), (V_kdrop c hK KX B).mono (by decide)⟩, List.forall_mem_cons.mpr ⟨⟨_, (by rw [hK]; exact M_196_put _), (V_kput c hK KX B).mono (by decide)⟩, List.forall_mem_cons.mpr ⟨⟨_, (by rw [hK]; exact M_362_has_column _), (V_hascol c hK KX B).mono (by decide)⟩, List.forall_mem_cons.mpr ⟨⟨_, (by rw [hK]; exact M_362_need_row _), (V_need c hK KX B).mono (by decide)⟩, (by intro x hx; cases hx)⟩⟩⟩⟩, (by intro x hx; cases hx)⟩ ⟨List.forall_mem_cons.mpr ⟨⟨rfl, _, E_56 c KX⟩, List.forall_mem_cons.mpr ⟨⟨rfl, _, E_92 c KX⟩, (by intro x hx; cases hx)⟩⟩, (by intro x hx; cases hx)⟩ ⟨rfl, rfl⟩ (KX 277 _ (by k_is)) rfl (codeRec_of KX (by k_is)) ?_ rfl rfl rfl ?_ ?_ ?_ (change_vc S07 rfl rfl rfl)
  · kernel_rfl
  · kernel_rfl
  · kernel_rfl
  · intro us h
    match us, h with
    | [a, b, c, d], _ => rfl

theorem V_trow (c : Bx) (hK : c.K = K c.w.params) (KX : (K c.w.params).In c.b) (B : ∀ x : Str, x ≠ "__name__" → c.mb x = bootBuiltins x) : Valid c 3 284 S_trow := by
  refine fn_valid (t := tb nm_Table_row [] [(362, "there")] [] [(362, "need_row", 14)] [] [] []) (S := S07) (body := p_Table_row) (vs := [0, 1]) (ps := [0, 1]) (nv := 2) ⟨globs c KX B, (by intro x hx; cases hx), List.forall_mem_cons.mpr ⟨(by rw [hK]; exact A_362_there _), (by intro x hx; cases hx)⟩, (by intro x hx; cases hx), List.forall_mem_cons.mpr ⟨⟨_, (by rw [hK]; exact M_362_need_row _), (V_need c hK KX B).mono (by decide)⟩, (by intro x hx; cases hx)⟩, (by intro x hx; cases hx)⟩ ⟨(by intro x hx; cases hx), (by intro x hx; cases hx)⟩ ⟨rfl, rfl⟩ (KX 284 _ (by k_is)) rfl (codeRec_of KX (by k_is)) ?_ rfl rfl rfl ?_ ?_ ?_ (trow_vc S07 rfl)
  · kernel_rfl
  · kernel_rfl
  · kernel_rfl
  · intro us h
    match us, h with
    | [a, b], _ => rfl

theorem V_tnums (c : Bx) (hK : c.K = K c.w.params) (KX : (K c.w.params).In c.b) (B : ∀ x : Str, x ≠ "__name__" → c.mb x = bootBuiltins x) : Valid c 1 291 S_nums := by
  refine fn_valid (t := tb nm_Table_numbers [] [(362, "there")] [] [] [] [] []) (S := S07) (body := p_Table_numbers) (vs := [0]) (ps := [0]) (nv := 1) ⟨globs c KX B, (by intro x hx; cases hx), List.forall_mem_cons.mpr ⟨(by rw [hK]; exact A_362_there _), (by intro x hx; cases hx)⟩, (by intro x hx; cases hx), (by intro x hx; cases hx), (by intro x hx; cases hx)⟩ ⟨(by intro x hx; cases hx), (by intro x hx; cases hx)⟩ ⟨rfl, rfl⟩ (KX 291 _ (by k_is)) rfl (codeRec_of KX (by k_is)) ?_ rfl rfl rfl ?_ ?_ ?_ (nums_vc S07)
  · kernel_rfl
  · kernel_rfl
  · kernel_rfl
  · intro us h
    match us, h with
    | [a], _ => rfl

theorem V_lwhole (c : Bx) (hK : c.K = K c.w.params) (KX : (K c.w.params).In c.b) (B : ∀ x : Str, x ≠ "__name__" → c.mb x = bootBuiltins x) : Valid c 1 373 S_whole := by
  refine fn_valid (t := tb nm_law_whole [] [] [] [] [] [] []) (S := S07) (body := p_law_whole) (vs := [0]) (ps := [0]) (nv := 1) ⟨globs c KX B, (by intro x hx; cases hx), (by intro x hx; cases hx), (by intro x hx; cases hx), (by intro x hx; cases hx), (by intro x hx; cases hx)⟩ ⟨(by intro x hx; cases hx), (by intro x hx; cases hx)⟩ ⟨rfl, rfl⟩ (KX 373 _ (by k_is)) rfl (codeRec_of KX (by k_is)) ?_ rfl rfl rfl ?_ ?_ ?_ (lwhole_vc S07)
  · kernel_rfl
  · kernel_rfl
  · kernel_rfl
  · intro us h
    match us, h with
    | [a], _ => rfl

theorem V_at (c : Bx) (hK : c.K = K c.w.params) (KX : (K c.w.params).In c.b) (B : ∀ x : Str, x ≠ "__name__" → c.mb x = bootBuiltins x) : Valid c 1 380 S_at := by
  refine fn_valid (t := tb nm_law_at [] [] [] [] [] [] []) (S := S07) (body := p_law_at) (vs := [0, 1]) (ps := [0, 1]) (nv := 2) ⟨globs c KX B, (by intro x hx; cases hx), (by intro x hx; cases hx), (by intro x hx; cases hx), (by intro x hx; cases hx), (by intro x hx; cases hx)⟩ ⟨(by intro x hx; cases hx), (by intro x hx; cases hx)⟩ ⟨rfl, rfl⟩ (KX 380 _ (by k_is)) rfl (codeRec_of KX (by k_is)) ?_ rfl rfl rfl ?_ ?_ ?_ (at_vc S07)
  · kernel_rfl
  · kernel_rfl
  · kernel_rfl
  · intro us h
    match us, h with
    | [a, b], _ => rfl

theorem V_value (c : Bx) (hK : c.K = K c.w.params) (KX : (K c.w.params).In c.b) (B : ∀ x : Str, x ≠ "__name__" → c.mb x = bootBuiltins x) : Valid c 1 387 S_value := by
  refine fn_valid (t := tb nm_law_value [] [] [] [] [] [] []) (S := S07) (body := p_law_value) (vs := [0]) (ps := [0]) (nv := 1) ⟨globs c KX B, (by intro x hx; cases hx), (by intro x hx; cases hx), (by intro x hx; cases hx), (by intro x hx; cases hx), (by intro x hx; cases hx)⟩ ⟨(by intro x hx; cases hx), (by intro x hx; cases hx)⟩ ⟨rfl, rfl⟩ (KX 387 _ (by k_is)) rfl (codeRec_of KX (by k_is)) ?_ rfl rfl rfl ?_ ?_ ?_ (value_vc S07)
  · kernel_rfl
  · kernel_rfl
  · kernel_rfl
  · intro us h
    match us, h with
    | [a], _ => rfl

theorem V_row (c : Bx) (hK : c.K = K c.w.params) (KX : (K c.w.params).In c.b) (B : ∀ x : Str, x ≠ "__name__" → c.mb x = bootBuiltins x) : Valid c 2 392 S_row := by
  refine fn_valid (t := tb nm_law_row [20] [] [] [] [] [] []) (S := S07) (body := p_law_row) (vs := [0, 1]) (ps := [0, 1]) (nv := 3) ⟨globs c KX B, List.forall_mem_cons.mpr ⟨⟨_, rfl, (V_value c hK KX B).mono (by decide)⟩, (by intro x hx; cases hx)⟩, (by intro x hx; cases hx), (by intro x hx; cases hx), (by intro x hx; cases hx), (by intro x hx; cases hx)⟩ ⟨(by intro x hx; cases hx), (by intro x hx; cases hx)⟩ ⟨rfl, rfl⟩ (KX 392 _ (by k_is)) rfl (codeRec_of KX (by k_is)) ?_ rfl rfl rfl ?_ ?_ ?_ (row_vc S07 rfl)
  · kernel_rfl
  · kernel_rfl
  · kernel_rfl
  · intro us h
    match us, h with
    | [a, b], _ => rfl

theorem V_same (c : Bx) (hK : c.K = K c.w.params) (KX : (K c.w.params).In c.b) (B : ∀ x : Str, x ≠ "__name__" → c.mb x = bootBuiltins x) : Valid c 2 399 S_same := by
  refine fn_valid (t := tb nm_law_same [21] [] [] [] [] [] []) (S := S07) (body := p_law_same) (vs := [0, 1, 2]) (ps := [0, 1]) (nv := 3) ⟨globs c KX B, List.forall_mem_cons.mpr ⟨⟨_, rfl, (V_lwhole c hK KX B).mono (by decide)⟩, (by intro x hx; cases hx)⟩, (by intro x hx; cases hx), (by intro x hx; cases hx), (by intro x hx; cases hx), (by intro x hx; cases hx)⟩ ⟨(by intro x hx; cases hx), (by intro x hx; cases hx)⟩ ⟨rfl, rfl⟩ (KX 399 _ (by k_is)) rfl (codeRec_of KX (by k_is)) ?_ rfl rfl rfl ?_ ?_ ?_ (same_vc S07 rfl)
  · kernel_rfl
  · kernel_rfl
  · kernel_rfl
  · intro us h
    match us, h with
    | [a, b], _ => rfl

theorem V_said (c : Bx) (hK : c.K = K c.w.params) (KX : (K c.w.params).In c.b) (B : ∀ x : Str, x ≠ "__name__" → c.mb x = bootBuiltins x) : Valid c 4 406 S_said := by
  refine fn_valid (t := tb nm_law_said [] [] [] [(362, "change", 23), (362, "drop", 22), (362, "row", 24)] [] [] [(6, [80], [92, 56]), (10, [56], [80, 92]), (17, [92], [80, 56])]) (S := S07) (body := p_law_said) (vs := [0, 1, 2, 3, 4]) (ps := [0, 1, 2, 3, 4]) (nv := 5) ⟨globs c KX B, (by intro x hx; cases hx), (by intro x hx; cases hx), (by intro x hx; cases hx), List.forall_mem_cons.mpr ⟨⟨_, (by rw [hK]; exact M_362_change _), (V_tchange c hK KX B).mono (by decide)⟩, List.forall_mem_cons.mpr ⟨⟨_, (by rw [hK]; exact M_362_drop _), (V_tdrop c hK KX B).mono (by decide)⟩, List.forall_mem_cons.mpr ⟨⟨_, (by rw [hK]; exact M_362_row _), (V_trow c hK KX B).mono (by decide)⟩, (by intro x hx; cases hx)⟩⟩⟩, (by intro x hx; cases hx)⟩ ⟨(by intro x hx; cases hx), List.forall_mem_cons.mpr ⟨⟨List.forall_mem_cons.mpr ⟨⟨_, E_80 c KX, .inl ⟨80, _, rfl, E_80 c KX, by decide⟩⟩, (by intro x hx; cases hx)⟩, List.forall_mem_cons.mpr ⟨⟨_, E_92 c KX, .inl ⟨80, _, rfl, E_80 c KX, by decide⟩⟩, List.forall_mem_cons.mpr ⟨⟨_, E_56 c KX, .inl ⟨80, _, rfl, E_80 c KX, by decide⟩⟩, (by intro x hx; cases hx)⟩⟩⟩, List.forall_mem_cons.mpr ⟨⟨List.forall_mem_cons.mpr ⟨⟨_, E_56 c KX, .inl ⟨56, _, rfl, E_56 c KX, by decide⟩⟩, (by intro x hx; cases hx)⟩, List.forall_mem_cons.mpr ⟨⟨_, E_80 c KX, .inl ⟨56, _, rfl, E_56 c KX, by decide⟩⟩, List.forall_mem_cons.mpr ⟨⟨_, E_92 c KX, .inl ⟨56, _, rfl, E_56 c KX, by decide⟩⟩, (by intro x hx; cases hx)⟩⟩⟩, List.forall_mem_cons.mpr ⟨⟨List.forall_mem_cons.mpr ⟨⟨_, E_92 c KX, .inl ⟨92, _, rfl, E_92 c KX, by decide⟩⟩, (by intro x hx; cases hx)⟩, List.forall_mem_cons.mpr ⟨⟨_, E_80 c KX, .inl ⟨92, _, rfl, E_92 c KX, by decide⟩⟩, List.forall_mem_cons.mpr ⟨⟨_, E_56 c KX, .inl ⟨92, _, rfl, E_92 c KX, by decide⟩⟩, (by intro x hx; cases hx)⟩⟩⟩, (by intro x hx; cases hx)⟩⟩⟩⟩ ⟨rfl, rfl⟩ (KX 406 _ (by k_is)) rfl (codeRec_of KX (by k_is)) ?_ rfl rfl rfl ?_ ?_ ?_ (said_vc S07 rfl rfl rfl)
  · kernel_rfl
  · kernel_rfl
  · kernel_rfl
  · intro us h
    match us, h with
    | [a, b, c, d, e], _ => rfl

theorem V_any (c : Bx) (hK : c.K = K c.w.params) (KX : (K c.w.params).In c.b) (B : ∀ x : Str, x ≠ "__name__" → c.mb x = bootBuiltins x) : Valid c 4 413 S_any := by
  refine fn_valid (t := tb nm_law_any [] [] [] [(362, "drop", 22)] [] [] [(25, [80, 92, 56], []), (26, [80, 92, 56], [])]) (S := S07) (body := p_law_any) (vs := [0, 1, 2]) (ps := [0, 1]) (nv := 3) ⟨globs c KX B, (by intro x hx; cases hx), (by intro x hx; cases hx), (by intro x hx; cases hx), List.forall_mem_cons.mpr ⟨⟨_, (by rw [hK]; exact M_362_drop _), (V_tdrop c hK KX B).mono (by decide)⟩, (by intro x hx; cases hx)⟩, (by intro x hx; cases hx)⟩ ⟨(by intro x hx; cases hx), List.forall_mem_cons.mpr ⟨⟨List.forall_mem_cons.mpr ⟨⟨_, E_80 c KX, .inl ⟨31, _, rfl, E_31 c KX, by decide⟩⟩, List.forall_mem_cons.mpr ⟨⟨_, E_92 c KX, .inl ⟨31, _, rfl, E_31 c KX, by decide⟩⟩, List.forall_mem_cons.mpr ⟨⟨_, E_56 c KX, .inl ⟨31, _, rfl, E_31 c KX, by decide⟩⟩, (by intro x hx; cases hx)⟩⟩⟩, (by intro x hx; cases hx)⟩, List.forall_mem_cons.mpr ⟨⟨List.forall_mem_cons.mpr ⟨⟨_, E_80 c KX, .inr ⟨rfl, by decide⟩⟩, List.forall_mem_cons.mpr ⟨⟨_, E_92 c KX, .inr ⟨rfl, by decide⟩⟩, List.forall_mem_cons.mpr ⟨⟨_, E_56 c KX, .inr ⟨rfl, by decide⟩⟩, (by intro x hx; cases hx)⟩⟩⟩, (by intro x hx; cases hx)⟩, (by intro x hx; cases hx)⟩⟩⟩ ⟨rfl, rfl⟩ (KX 413 _ (by k_is)) rfl (codeRec_of KX (by k_is)) ?_ rfl rfl rfl ?_ ?_ ?_ (any_vc S07 rfl)
  · kernel_rfl
  · kernel_rfl
  · kernel_rfl
  · intro us h
    match us, h with
    | [a, b], _ => rfl

theorem V_deed (c : Bx) (hK : c.K = K c.w.params) (KX : (K c.w.params).In c.b) (B : ∀ x : Str, x ≠ "__name__" → c.mb x = bootBuiltins x) : Valid c 5 420 S_deed := by
  refine fn_valid (t := tb nm_law_deed [20, 21, 27, 28, 29] [(362, "width")] [] [] [] [] []) (S := S07) (body := p_law_deed) (vs := [0, 1, 2, 3, 4, 5, 6, 7, 8, 9, 10, 11]) (ps := [0, 1, 2, 3]) (nv := 12) ⟨globs c KX B, List.forall_mem_cons.mpr ⟨⟨_, rfl, (V_value c hK KX B).mono (by decide)⟩, List.forall_mem_cons.mpr ⟨⟨_, rfl, (V_lwhole c hK KX B).mono (by decide)⟩, List.forall_mem_cons.mpr ⟨⟨_, rfl, (V_said c hK KX B).mono (by decide)⟩, List.forall_mem_cons.mpr ⟨⟨_, rfl, (V_any c hK KX B).mono (by decide)⟩, List.forall_mem_cons.mpr ⟨⟨_, rfl, (V_same c hK KX B).mono (by decide)⟩, (by intro x hx; cases hx)⟩⟩⟩⟩⟩, List.forall_mem_cons.mpr ⟨(by rw [hK]; exact A_362_width _), (by intro x hx; cases hx)⟩, (by intro x hx; cases hx), (by intro x hx; cases hx), (by intro x hx; cases hx)⟩ ⟨(by intro x hx; cases hx), (by intro x hx; cases hx)⟩ ⟨rfl, rfl⟩ (KX 420 _ (by k_is)) rfl (codeRec_of KX (by k_is)) ?_ rfl rfl rfl ?_ ?_ ?_ (deed_vc S07 rfl rfl rfl rfl rfl)
  · kernel_rfl
  · kernel_rfl
  · kernel_rfl
  · intro us h
    match us, h with
    | [a, b, c, d], _ => rfl

theorem V_law (c : Bx) (hK : c.K = K c.w.params) (KX : (K c.w.params).In c.b) (B : ∀ x : Str, x ≠ "__name__" → c.mb x = bootBuiltins x) : Valid c 6 427 S_law := by
  refine fn_valid (t := tb nm_law [32, 33, 21, 35, 29] [(362, "width")] [] [(362, "numbers", 36), (362, "put", 34), (362, "row", 24)] [(362, 30)] [] []) (S := S07) (body := p_law) (vs := [0, 1, 2, 3, 4, 5, 6, 7, 8, 9, 10]) (ps := [0]) (nv := 11) ⟨globs c KX B, List.forall_mem_cons.mpr ⟨⟨_, rfl, (V_at c hK KX B).mono (by decide)⟩, List.forall_mem_cons.mpr ⟨⟨_, rfl, (V_row c hK KX B).mono (by decide)⟩, List.forall_mem_cons.mpr ⟨⟨_, rfl, (V_lwhole c hK KX B).mono (by decide)⟩, List.forall_mem_cons.mpr ⟨⟨_, rfl, (V_deed c hK KX B).mono (by decide)⟩, List.forall_mem_cons.mpr ⟨⟨_, rfl, (V_same c hK KX B).mono (by decide)⟩, (by intro x hx; cases hx)⟩⟩⟩⟩⟩, List.forall_mem_cons.mpr ⟨(by rw [hK]; exact A_362_width _), (by intro x hx; cases hx)⟩, (by intro x hx; cases hx), List.forall_mem_cons.mpr ⟨⟨_, (by rw [hK]; exact M_362_numbers _), (V_tnums c hK KX B).mono (by decide)⟩, List.forall_mem_cons.mpr ⟨⟨_, (by rw [hK]; exact M_362_put _), (V_tput c hK KX B).mono (by decide)⟩, List.forall_mem_cons.mpr ⟨⟨_, (by rw [hK]; exact M_362_row _), (V_trow c hK KX B).mono (by decide)⟩, (by intro x hx; cases hx)⟩⟩⟩, List.forall_mem_cons.mpr ⟨⟨_, 2, by decide, (by rw [hK]; exact N_362 _), (V_tinit c hK KX B).mono (by decide)⟩, (by intro x hx; cases hx)⟩⟩ ⟨(by intro x hx; cases hx), (by intro x hx; cases hx)⟩ ⟨rfl, rfl⟩ (KX 427 _ (by k_is)) rfl (codeRec_of KX (by k_is)) ?_ rfl rfl rfl ?_ ?_ ?_ (law_vc)
  · kernel_rfl
  · kernel_rfl
  · kernel_rfl
  · intro us h
    match us, h with
    | [a], _ => rfl

theorem said : PySem.Challenge.rw_uf040016_07.wellSaid = true := by kernel_rfl

end Mine.L07
set_option maxRecDepth 100000 in
set_option maxHeartbeats 8000000 in
theorem PySem.Challenge.cw_uf040016_07_holds : PySem.Challenge.rw_uf040016_07.Holds := by
  w_on
  refine holds_law Mine.L07.said fun said => ?_
  refine holds_open (q := Mine.L07.q) (loose := []) (Xt := fun s => xlAt Mine.L07.q [] s && recOk [] s) (XP := XL Mine.L07.q []) (Yf := Hook.obs Mine.L07.H) (Ya := Hook.val Mine.L07.H) (YP := Hook.says Mine.L07.H) (N := 3641) Mine.L07.left (Hook.of Mine.L07.H) (Hook.keeps Mine.L07.H) (fun s e => xl_of s (Bool.and_eq_true_iff.mp e).1) XL.keeps (by rfl) (by rfl) (by rfl) (fun s e => recFacts_of (Bool.and_eq_true_iff.mp e).2) (by rfl) (by assumption) (by decide +kernel) ⟨rfl, rfl, rfl, rfl, rfl, by decide +kernel⟩ ?hw ?hc
  case hw => w_witness2
  case hc =>
  k_fill
  intro w s₀ s₁ mg mb G Y fa o pm cd doc dV kV ho hd hcd hD hmg hg args vals as hpre hlay hrd hwl hlo
  have KX := kIn_of Y
  refine Ground.open G ?_
  intro T B D TE TW
  
  wrow_args hpre hlay hrd hwl hlo
  refine enter_call ?_
  rename s₁.heap.IsList _ _ => hL
  rename IntsAre _ _ => hI
  rename ¬ ((63 : Nat) : Int) < _ => hm
  have e := (mg_of (n := Str.ofString "law") KX T.g (by k_is)).symm.trans hmg
  cases e
  rename PyData.layable0 _ = true => hY
  refine Mine.law_good (c := ⟨_, w, s₁.heap, mg, mb, T.g, T.b, T.nolimit, Mine.L07.K w.params, KX⟩) (Mine.L07.V_law _ rfl KX T.builtins) rfl ?_ hL hI hg ⟨_, 1048576, rfl, ?_, ?_, by decide, fun _ => rfl⟩ ?_ ?_
  · exact ⟨rfl, by decide, by decide⟩
  · omega
  · exact fun c hc => Mine.L07.bt_of_bits (Nat.le_trans (PyData.bits_item_of_ints hY hc) (by decide))
  · intro x; rfl
  · wrow_post
