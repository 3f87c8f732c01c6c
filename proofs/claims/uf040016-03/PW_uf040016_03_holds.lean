import PyProof.Rows.All
import Wide.All
import OpenK.AllK
import Wide.FinOn
import PySem.Challenge.RW_uf040016_03
open PySem PyProof.Rows
set_option Elab.async false
namespace Mine

/-- the members of a set of columns, by its bits -/
def keysOf (f : Nat) : List Nat := (List.range 6).filter fun k => f.testBit k
def tabOf (f : Nat) (led : Bool) : SetTable :=
  { mask := if (keysOf f).length ≤ 4 then 7 else 31, place := (keysOf f).toArray, dummies := #[], finger := 0, led := led, moves := if (keysOf f).length ≤ 4 then 0 else 1, plain := true }
/-- the table with one more place, before it grows -/
def tabPre (f k : Nat) (led : Bool) : SetTable := { tabOf f led with place := (keysOf (f ||| 2 ^ k)).toArray }
def posOf (f k : Nat) : Nat := ((keysOf f).filter (· < k)).length

theorem free_ok : ∀ f < (64 : Nat), ∀ k < (6 : Nat), f.testBit k = false → ∀ led : Bool, (tabOf f led).freeSlot (Int.ofNat k) = some (k, false) := by decide +kernel
theorem put_ok : ∀ f < 64, ∀ k < 6, f.testBit k = false → ∀ led : Bool, (tabOf f led).put k = (tabPre f k led, posOf f k) := by decide +kernel
theorem keys_ins : ∀ f < 64, ∀ k < 6, f.testBit k = false → SetTable.insertAt (keysOf f).toArray (posOf f k) k = (keysOf (f ||| 2 ^ k)).toArray := by decide +kernel
theorem len_ins : ∀ f < 64, ∀ k < 6, f.testBit k = false → (keysOf (f ||| 2 ^ k)).length = (keysOf f).length + 1 := by decide +kernel
theorem fits_pre : ∀ f < 64, ∀ k < 6, f.testBit k = false → ∀ led : Bool, (tabPre f k led).fits ((keysOf f).length + 1) = true := by decide +kernel
theorem fits_tab : ∀ f < 64, ∀ led : Bool, (tabOf f led).fits (keysOf f).length = true := by decide +kernel
theorem full_no : ∀ f < 64, ∀ k < 6, f.testBit k = false → ∀ led : Bool, (tabPre f k led).tooFull = false → tabPre f k led = tabOf (f ||| 2 ^ k) led := by decide +kernel
theorem full_yes1 : ∀ f < (64 : Nat), ∀ k < (6 : Nat), f.testBit k = false → ∀ led : Bool, (tabPre f k led).tooFull = true →
    ((tabPre f k led).relaid ((keysOf (f ||| 2 ^ k)).map Int.ofNat).toArray (SetTable.grown ((keysOf f).length + 1))).map (·.1) = some (tabOf (f ||| 2 ^ k) led) := by decide +kernel
theorem full_yes2 : ∀ f < (64 : Nat), ∀ k < (6 : Nat), f.testBit k = false → ∀ led : Bool, (tabPre f k led).tooFull = true →
    (((tabPre f k led).relaid ((keysOf (f ||| 2 ^ k)).map Int.ofNat).toArray (SetTable.grown ((keysOf f).length + 1))).elim false fun x => x.2.toList == List.range ((keysOf f).length + 1)) = true := by decide +kernel
theorem full_yes (f : Nat) (hf : f < 64) (k : Nat) (hk : k < 6) (h : f.testBit k = false) (led : Bool) (ht : (tabPre f k led).tooFull = true) :
    (tabPre f k led).relaid ((keysOf (f ||| 2 ^ k)).map Int.ofNat).toArray (SetTable.grown ((keysOf f).length + 1)) = some (tabOf (f ||| 2 ^ k) led, (List.range ((keysOf f).length + 1)).toArray) := by
  have h1 := full_yes1 f hf k hk h led ht
  have h2 := full_yes2 f hf k hk h led ht
  generalize (tabPre f k led).relaid _ _ = r at h1 h2 ⊢
  match r, h1, h2 with
  | some (a, b), h1, h2 =>
    simp only [Option.map_some, Option.some.injEq] at h1
    have h3 : b.toList = List.range ((keysOf f).length + 1) := by simpa using h2
    rw [h1, ← h3]
theorem or_lt : ∀ f < 64, ∀ k < 6, f ||| 2 ^ k < 64 := by decide +kernel
theorem keys_has : ∀ f < 64, ∀ k < 6, (f.testBit k = true ↔ k ∈ keysOf f) := by decide +kernel
theorem keys_or : ∀ f < 64, ∀ k < 6, f.testBit k = true → f ||| 2 ^ k = f := by decide +kernel
theorem below_ok : ∀ f < 64, ∀ led : Bool, ∀ i < (keysOf f).length, SetTable.below (tabOf f led).place (if i = 0 then 0 else (keysOf f).getD (i - 1) 0 + 1) = i := by decide +kernel
theorem below_end : ∀ f < 64, ∀ led : Bool, SetTable.below (tabOf f led).place (if (keysOf f).length = 0 then 0 else (keysOf f).getD ((keysOf f).length - 1) 0 + 1) = (keysOf f).length := by decide +kernel
theorem covers_ok : ∀ f < 64, coversAll (List.range ((keysOf f).length + 1)).toArray ((keysOf f).length + 1) = true := by decide +kernel
end Mine

open PySem PyProof.Rows
set_option Elab.async false
set_option maxRecDepth 100000
namespace Mine

def EsOk (f : Nat) (es : Array (Int × Value)) : Prop := es.toList.map (·.1) = (keysOf f).map Int.ofNat ∧ ∀ e ∈ es.toList, ∃ t, e.2 = .int e.1 t
def SetIs (h : Heap) (a : Addr) (f : Nat) (led : Bool) : Prop := ∃ es ep, h.get? a = some ({ cls := .type "set", dict := none, data := .set es ep (tabOf f led) } : Obj) ∧ EsOk f es

theorem EsOk.size {f : Nat} {es : Array (Int × Value)} (h : EsOk f es) : es.size = (keysOf f).length := by
  have := congrArg List.length h.1
  simpa using this
theorem hash_small : ∀ k < (6 : Nat), hashInt (Int.ofNat k) = Int.ofNat k := by decide +kernel
theorem keys_small {f k : Nat} (h : k ∈ keysOf f) : k < 6 := by
  unfold keysOf at h
  exact List.mem_range.mp (List.mem_filter.mp h).1
theorem EsOk.elems {prog : Program} {w : World} {f : Nat} {es : Array (Int × Value)} (h : EsOk f es) : ElemsOf (intKind prog w) es.toList := by
  intro e he
  obtain ⟨t, et⟩ := h.2 e he
  have hm : e.1 ∈ es.toList.map (·.1) := List.mem_map_of_mem he
  rw [h.1] at hm
  obtain ⟨k, hk, ek⟩ := List.mem_map.mp hm
  refine ⟨⟨e.1, by rw [et]; exact intKind_is _ _ _ _, ?_⟩, by rw [et]; rfl⟩
  show e.1 = hashInt e.1
  rw [← ek, hash_small k (keys_small hk)]
theorem keys_le (f : Nat) : (keysOf f).length ≤ 6 := by
  unfold keysOf
  exact Nat.le_trans (List.length_filter_le _ _) (by simp)

theorem ins_map {α β : Type} (g : α → β) (xs : Array α) (p : Nat) (x : α) : (SetTable.insertAt xs p x).toList.map g = (SetTable.insertAt (xs.map g) p (g x)).toList := by
  unfold SetTable.insertAt
  simp [List.map_take, List.map_drop]
theorem ins_mem {α : Type} {xs : Array α} {p : Nat} {x y : α} (h : y ∈ (SetTable.insertAt xs p x).toList) : y ∈ xs.toList ∨ y = x := by
  unfold SetTable.insertAt at h
  simp only [Array.toList_append, Array.toList_push, List.mem_append, Array.toList_extract, List.mem_singleton] at h
  rcases h with (h | h) | h
  · left; exact List.mem_of_mem_take (i := p) (by simpa [List.extract] using h)
  · right; exact h
  · left; exact List.mem_of_mem_drop (List.mem_of_mem_take (by simpa [List.extract] using h))

theorem EsOk.ins {f k : Nat} {es : Array (Int × Value)} (h : EsOk f es) (hf : f < 64) (hk : k < 6) (hn : f.testBit k = false) (t : Tok) : EsOk (f ||| 2 ^ k) (SetTable.insertAt es (posOf f k) (Int.ofNat k, .int (Int.ofNat k) t)) := by
  refine ⟨?_, fun e he => ?_⟩
  · rw [ins_map]
    have h1 : es.map (·.1) = ((keysOf f).toArray.map Int.ofNat) := by
      apply Array.toList_inj.mp
      simpa using h.1
    rw [h1]
    have := congrArg (fun a : Array Nat => a.toList.map Int.ofNat) (keys_ins f hf k hk hn)
    rw [← ins_map Int.ofNat]
    simpa using this
  · rcases ins_mem he with he | rfl
    · exact h.2 e he
    · exact ⟨t, rfl⟩

theorem layNew_ok {f k : Nat} {es : Array (Int × Value)} (h : EsOk f es) (hf : f < 64) (hk : k < 6) (hn : f.testBit k = false) (led : Bool) (x : Value) :
    layNew (tabOf f led) es (Int.ofNat k) x = (SetTable.insertAt es (posOf f k) (Int.ofNat k, x), tabPre f k led, false, false) := by
  have hsz : (SetTable.insertAt es (posOf f k) (Int.ofNat k, x)).size = (keysOf f).length + 1 := by
    have e1 : ((SetTable.insertAt es (posOf f k) (Int.ofNat k, x)).toList.map (·.1)).length = (keysOf (f ||| 2 ^ k)).length := by
      rw [ins_map]
      have h1 : es.map (·.1) = ((keysOf f).toArray.map Int.ofNat) := by
        apply Array.toList_inj.mp
        simpa using h.1
      rw [h1, ← ins_map Int.ofNat, keys_ins f hf k hk hn]
      simp
    rw [len_ins f hf k hk hn] at e1
    simpa using e1
  unfold layNew
  rw [free_ok f hf k hk hn led]
  dsimp only
  rw [put_ok f hf k hk hn led]
  dsimp only
  have hfit := fits_pre f hf k hk hn led
  rw [hsz]
  unfold SetTable.orStandIn
  rw [hfit]
  rfl

theorem filterMap_range (es : Array (Int × Value)) : (List.range es.size).toArray.filterMap (es[·]?) = es := by
  apply Array.toList_inj.mp
  rw [Array.toList_filterMap]
  simp only []
  have : ∀ l : List (Int × Value), (List.range l.length).filterMap (l[·]?) = l := by
    intro l
    induction l with
    | nil => rfl
    | cons a r ih =>
      rw [List.length_cons, List.range_succ_eq_map, List.filterMap_cons, List.filterMap_map]
      simpa [Function.comp_def] using ih
  have := this es.toList
  simpa using this

theorem relay_ok {f k : Nat} {es : Array (Int × Value)} (hf : f < 64) (hk : k < 6) (hn : f.testBit k = false) (led : Bool) (h : EsOk (f ||| 2 ^ k) es) (ht : (tabPre f k led).tooFull = true) :
    relayAll (tabPre f k led) es (SetTable.grown es.size) = (es, tabOf (f ||| 2 ^ k) led, false) := by
  have hsz : es.size = (keysOf f).length + 1 := by rw [h.size, len_ins f hf k hk hn]
  have h1 : es.map (·.1) = ((keysOf (f ||| 2 ^ k)).map Int.ofNat).toArray := by
    apply Array.toList_inj.mp
    simpa using h.1
  unfold relayAll
  rw [h1, hsz, full_yes f hf k hk hn led ht]
  dsimp only
  rw [← hsz, filterMap_range, hsz, covers_ok f hf]
  have := fits_tab (f ||| 2 ^ k) (or_lt f hf k hk) led
  rw [len_ins f hf k hk hn] at this
  rw [this]
  rfl

section
variable {prog : Program} {w : World} {A : Around} {E : Value → Shared → Prop} {s : Shared}

theorem add_ok {a : Addr} {f k : Nat} {led : Bool} {t : Tok} {Q : Bool → Shared → Prop} (hS : SetIs s.heap a f led) (hf : f < 64) (hk : k < 6)
    (h : ∀ b h', Heap.SameBut a s.heap h' → SetIs h' a (f ||| 2 ^ k) led → Q b { s with heap := h' }) :
    wpAny (model prog w) A (setAddHashed a (.int (Int.ofNat k) t) (hashInt (Int.ofNat k))) Q E s := by
  obtain ⟨es, ep, ho, ok⟩ := hS
  have hfit : (tabOf f led).fits es.size = true := by rw [ok.size]; exact fits_tab f hf led
  have hb : es.size < scanBound := by rw [ok.size]; have := keys_le f; unfold scanBound; omega
  have hel : ElemsOf (intKind prog w) es.toList := ok.elems
  have hkey := intKind_is prog w (Int.ofNat k) t
  unfold setAddHashed setAddHashedIn
  refine wpAny_holding (wpAny_bind (wpAny_setState_of ho rfl hfit ?_))
  dsimp only
  rw [byScan_of (knd := intKind prog w) (x := .int (Int.ofNat k) t) rfl hb hel]
  simp only [↓reduceIte]
  unfold setAddByScan
  refine wpAny_bind ?_
  refine wpAny_bind (wpAny_rule ?_)
  refine wpAny_bind (wpAny_setScan_of (knd := intKind prog w) hkey ho rfl hfit hel ?_)
  cases hr : List.findIdx? (fun e => (intKind prog w).is (Int.ofNat k) e.2) es.toList with
  | some j =>
    dsimp only
    obtain ⟨hj, hpj, _⟩ := List.findIdx?_eq_some_iff_getElem.mp hr
    obtain ⟨t', et⟩ := ok.2 _ (List.getElem_mem hj)
    have e1 : es.toList[j].1 = Int.ofNat k := by
      rw [et] at hpj
      simpa [intKind, Value.isInt] using hpj
    have hin : Int.ofNat k ∈ (keysOf f).map Int.ofNat := by rw [← ok.1, ← e1]; exact List.mem_map_of_mem (List.getElem_mem hj)
    obtain ⟨k', hk', ek⟩ := List.mem_map.mp hin
    have : k' = k := Int.ofNat.inj ek
    subst this
    have hbit := (keys_has f hf k' hk).mpr hk'
    refine wpAny_pure (wpAny_pure ?_)
    have e : s = { s with heap := s.heap } := by cases s; rfl
    rw [e]
    exact h _ s.heap (Heap.SameBut.refl a s.heap) (by rw [keys_or f hf k' hk hbit]; exact ⟨es, ep, ho, ok⟩)
  | none =>
    dsimp only
    have hn : f.testBit k = false := by
      cases q : f.testBit k with
      | false => rfl
      | true =>
        have hin := (keys_has f hf k hk).mp q
        have hm : Int.ofNat k ∈ es.toList.map (·.1) := by rw [ok.1]; exact List.mem_map_of_mem hin
        obtain ⟨e, he, ee⟩ := List.mem_map.mp hm
        obtain ⟨t', et⟩ := ok.2 e he
        have := List.findIdx?_eq_none_iff.mp hr e he
        rw [et, ee, intKind_is] at this
        exact Bool.noConfusion this
    rw [hash_small k hk, layNew_ok ok hf hk hn led]
    dsimp only
    have ok1 := ok.ins hf hk hn t
    have hz1 := ok1.size
    have hle := keys_le (f ||| 2 ^ k)
    refine wpAny_bind (m := _) (wpAny_pure (a := ()) ?_)
    have hpl : (tabPre f k led).plain = true := rfl
    rw [hpl]
    simp only [↓reduceIte]
    refine wpAny_bind ?_
    rw [hashByValue_scannable 8 (x := .int (Int.ofNat k) t) rfl]
    refine wpAny_pure ?_
    simp only [plainKind, ↓reduceIte]
    refine wpAny_bind (wpAny_storeSet_of ho rfl ?_ (by rw [hz1, sizeLine_eq]; omega))
    have hg1 : (s.heap.update a (Obj.putSet (SetTable.insertAt es (posOf f k) (Int.ofNat k, .int (Int.ofNat k) t)) (tabPre f k led))).get? a = some ({ cls := .type "set", dict := none, data := .set (SetTable.insertAt es (posOf f k) (Int.ofNat k, .int (Int.ofNat k) t)) (ep + 1) (tabPre f k led) } : Obj) := by
      have := Heap.get?_update_self (Obj.putSet (SetTable.insertAt es (posOf f k) (Int.ofNat k, .int (Int.ofNat k) t)) (tabPre f k led)) ho (by rw [putSet_of _ _ rfl]; rfl)
      rw [putSet_of _ _ rfl] at this
      exact this
    have hsb1 := Heap.SameBut.update s.heap a (Obj.putSet (SetTable.insertAt es (posOf f k) (Int.ofNat k, .int (Int.ofNat k) t)) (tabPre f k led))
    cases ht : (tabPre f k led).tooFull with
    | false =>
      simp only [Bool.not_false, Bool.true_and, Bool.false_eq_true, ↓reduceIte]
      refine wpAny_pure (wpAny_pure ?_)
      exact h _ _ hsb1 ⟨_, _, by rw [hg1, full_no f hf k hk hn led ht], ok1⟩
    | true =>
      simp only [Bool.not_false, Bool.true_and, ↓reduceIte]
      rw [relay_ok hf hk hn led ok1 ht]
      dsimp only
      refine wpAny_bind (wpAny_pure (a := ()) ?_)
      refine wpAny_bind (wpAny_storeSet_of hg1 rfl ?_ (by rw [hz1, sizeLine_eq]; omega))
      refine wpAny_pure (wpAny_pure ?_)
      refine h _ _ (hsb1.trans (Heap.SameBut.update _ a _)) ⟨_, ep + 2, ?_, ok1⟩
      have := Heap.get?_update_self (Obj.putSet (SetTable.insertAt es (posOf f k) (Int.ofNat k, .int (Int.ofNat k) t)) (tabOf (f ||| 2 ^ k) led)) hg1 (by rw [putSet_of _ _ rfl]; rfl)
      rw [putSet_of _ _ rfl] at this
      exact this
end
end Mine

open PySem PyProof.Rows
set_option Elab.async false
set_option maxRecDepth 100000
namespace Mine

def SetAt (h : Heap) (a : Addr) (f : Nat) (led : Bool) (es : Array (Int × Value)) (ep : Nat) : Prop := h.get? a = some ({ cls := .type "set", dict := none, data := .set es ep (tabOf f led) } : Obj) ∧ EsOk f es
def ordOf (w : World) (a : Addr) (ep : Nat) (es : Array (Int × Value)) : Array (Int × Value) := if w.params.followText "set-order" then pickOrder (w.params.setOrder a ep) es else es
def slotAt (b : Bool) (f i : Nat) : Nat := if b then 0 else if i = 0 then 0 else (keysOf f).getD (i - 1) 0 + 1
def IsSetIter (h : Heap) (it a : Addr) (slot i n ep : Nat) : Prop := ∃ o, h.get? it = some o ∧ o.cls = .type "set_iterator" ∧ o.data = .fields #[.int slot 0, .int i 0, .ref a, .int n 0, .int ep 0]
theorem IsSetIter.typeIs {s : Shared} {it a slot i n ep} (x : IsSetIter s.heap it a slot i n ep) : s.TypeIs (.ref it) "set_iterator" := let ⟨o, ho, hc, _⟩ := x; ⟨o, ho, hc⟩

/-! ### the order drawn from the text is an order of all -/
theorem pickGo_perm {α : Type} (next : Nat → Nat) : ∀ (n k : Nat) (l : List α) (out : Array α), l.length = n → (pickOrder.go next n k l out).toList.Perm (out.toList ++ l)
  | 0, k, l, out, h => by
    have : l = [] := List.length_eq_zero_iff.mp h
    subst this
    simp [pickOrder.go]
  | n + 1, k, l, out, h => by
    have hlt : next k % l.length < l.length := Nat.mod_lt _ (by omega)
    simp only [pickOrder.go, List.getElem?_eq_getElem hlt]
    refine (pickGo_perm next n (k + 1) _ _ (by rw [List.length_eraseIdx_of_lt hlt]; omega)).trans ?_
    rw [Array.toList_push, List.append_assoc]
    refine List.Perm.append_left _ ?_
    rw [List.singleton_append]
    rw [List.eraseIdx_eq_take_drop_succ]
    have e : l = l.take (next k % l.length) ++ l[next k % l.length] :: l.drop (next k % l.length + 1) := by
      rw [← List.drop_eq_getElem_cons hlt, List.take_append_drop]
    conv => rhs; rw [e]
    exact List.perm_middle.symm
theorem ord_perm (w : World) (a : Addr) (ep : Nat) (es : Array (Int × Value)) : (ordOf w a ep es).toList.Perm es.toList := by
  unfold ordOf
  split
  · have := pickGo_perm (w.params.setOrder a ep) es.size 0 es.toList #[] (by simp)
    simpa [pickOrder] using this
  · exact List.Perm.refl _
theorem ord_size (w : World) (a : Addr) (ep : Nat) (es : Array (Int × Value)) : (ordOf w a ep es).size = es.size := by
  have := (ord_perm w a ep es).length_eq
  simpa using this

namespace SF
theorem slot_set_iterator_next : Slot "set_iterator" "__next__" "set_iterator.__next__" :=
  .of (owner := "set_iterator") (n := "__next__") (by rw [typeLookup_type, builtinLookup_eq_fast]; kernel_rfl) (by decide +kernel) (by decide +kernel) (by decide +kernel)
    (by first | exact .inl (by decide +kernel) | exact .inr (by decide +kernel)) (by rw [isSubtype_type]; kernel_rfl)
theorem entry_set_iterator_next : entryFor table "set_iterator.__next__" = some Builtin.«set_iterator.__next__» := entryFor_of_tree (by kernel_rfl)
theorem owner_set_iterator : Manifest.owners.lookup (String.ofList "set_iterator".toList.reverse.reverse) = some Manifest.sig_set_iterator := by kernel_rfl
theorem args_set_iterator_next (a : Value) : argsOk "set_iterator.__next__" ⟨[a], []⟩ := by
  unfold argsOk; rw [signature?_of (id := "set_iterator.__next__") (n := ['_', '_', 't', 'x', 'e', 'n', '_', '_']) (o := "set_iterator".toList.reverse) (by kernel_rfl) owner_set_iterator]; kernel_rfl
theorem slot_set_iterator_iter : Slot "set_iterator" "__iter__" "set_iterator.__iter__" :=
  .of (owner := "set_iterator") (n := "__iter__") (by rw [typeLookup_type, builtinLookup_eq_fast]; kernel_rfl) (by decide +kernel) (by decide +kernel) (by decide +kernel)
    (by first | exact .inl (by decide +kernel) | exact .inr (by decide +kernel)) (by rw [isSubtype_type]; kernel_rfl)
theorem args_set_iterator_iter (a : Value) : argsOk "set_iterator.__iter__" ⟨[a], []⟩ := by
  unfold argsOk; rw [signature?_of (id := "set_iterator.__iter__") (n := ['_', '_', 'r', 'e', 't', 'i', '_', '_']) (o := "set_iterator".toList.reverse) (by kernel_rfl) owner_set_iterator]; kernel_rfl
theorem entry_set_iterator_iter : entryFor table "set_iterator.__iter__" = some Builtin.«dict_keyiterator.__iter__» :=
  entryFor_alias (id' := "dict_keyiterator.__iter__") (by kernel_rfl) rfl (by decide +kernel) (by kernel_rfl)
theorem entry_set_iter : entryFor table "set.__iter__" = some Builtin.«frozenset.__iter__» :=
  entryFor_alias (id' := "frozenset.__iter__") (by kernel_rfl) rfl (by decide +kernel) (by kernel_rfl)
end SF

section
variable {prog : Program} {w : World} {A : Around} {E : Value → Shared → Prop} {s : Shared}

theorem state_ok {a : Addr} {f : Nat} {led : Bool} {es : Array (Int × Value)} {ep : Nat} {Q : (Array (Int × Value) × Nat × SetTable) → Shared → Prop} (hf : f < 64) (h : SetAt s.heap a f led es ep) (hQ : Q (es, ep, tabOf f led) s) : wpAny (model prog w) A (setState a) Q E s :=
  wpAny_setState_of h.1 rfl (by rw [h.2.size]; exact fits_tab f hf led) hQ
theorem byText_ok {Q : Bool → Shared → Prop} (h : Q (w.params.followText "set-order") s) : wpAny (model prog w) A setsByText Q E s := by
  unfold setsByText
  exact wpAny_bind (wpAny_askSetting (wpAny_pure h))
theorem walk_text {a : Addr} {f : Nat} {led : Bool} {es : Array (Int × Value)} {ep : Nat} {Q : Array (Int × Value) → Shared → Prop} (hf : f < 64) (h : SetAt s.heap a f led es ep) (hb : w.params.followText "set-order" = true) (hQ : Q (ordOf w a ep es) s) : wpAny (model prog w) A (setWalk a) Q E s := by
  unfold setWalk
  refine wpAny_bind (state_ok hf h ?_)
  dsimp only
  refine wpAny_bind (byText_ok ?_)
  rw [hb]
  simp only [↓reduceIte]
  refine wpAny_bind (wpAny_askSetting (wpAny_pure ?_))
  unfold ordOf at hQ
  rw [if_pos hb] at hQ
  exact hQ

theorem next_ok {a : Addr} {f : Nat} {es : Array (Int × Value)} {ep i : Nat} {Q : Option (Value × Nat) → Shared → Prop} (hf : f < 64) (h : SetAt s.heap a f (!w.params.followText "set-order") es ep) (hi : i ≤ (keysOf f).length)
    (hQ : Q ((ordOf w a ep es)[i]?.map fun e => (e.2, slotAt (w.params.followText "set-order") f (i + 1))) s) : wpAny (model prog w) A (setNext a (slotAt (w.params.followText "set-order") f i) i ep) Q E s := by
  unfold setNext
  refine wpAny_bind (state_ok hf h ?_)
  dsimp only
  refine wpAny_bind (byText_ok ?_)
  cases hb : w.params.followText "set-order" with
  | true =>
    rw [hb] at hQ
    simp only [↓reduceIte]
    rw [if_neg (by simp)]
    refine wpAny_bind (walk_text hf h hb ?_)
    refine wpAny_pure ?_
    simp only [slotAt, ↓reduceIte] at hQ ⊢
    exact hQ
  | false =>
    rw [hb] at hQ h
    simp only [Bool.false_eq_true, ↓reduceIte]
    refine wpAny_ite_split (fun hab => absurd (show false = true from hab) Bool.false_ne_true) (fun _ => ?_)
    refine wpAny_bind (wpAny_pure (a := ()) ?_)
    have ho : ordOf w a ep es = es := by unfold ordOf; rw [hb]; rfl
    rw [ho] at hQ
    have hsz := h.2.size
    have hpl : ∀ j : Nat, (tabOf f (!false)).place[j]? = (keysOf f)[j]? := fun j => by simp [tabOf]
    rcases Nat.lt_or_ge i (keysOf f).length with hlt | hge
    · have hbel : SetTable.below (tabOf f (!false)).place (slotAt false f i) = i := below_ok f hf _ i hlt
      rw [hbel, hpl]
      have e1 : es[i]? = some es[i] := Array.getElem?_eq_getElem (by omega)
      have e2 : (keysOf f)[i]? = some (keysOf f)[i] := List.getElem?_eq_getElem hlt
      rw [e1] at hQ ⊢
      rw [e2]
      refine wpAny_pure ?_
      have e3 : slotAt false f (i + 1) = (keysOf f)[i] + 1 := by
        simp [slotAt, List.getD_eq_getElem?_getD, e2]
      rw [e3] at hQ
      exact hQ
    · have hi' : i = (keysOf f).length := by omega
      have hbel : SetTable.below (tabOf f (!false)).place (slotAt false f i) = i := by rw [hi']; exact below_end f hf _
      rw [hbel]
      have e1 : es[i]? = none := Array.getElem?_eq_none (by omega)
      rw [e1] at hQ ⊢
      exact wpAny_pure hQ

theorem pyIter_set {a : Addr} {f : Nat} {led : Bool} {es : Array (Int × Value)} {ep : Nat} {Q : Value → Shared → Prop} (hf : f < 64) (h : SetAt s.heap a f led es ep)
    (hQ : Q (.ref s.heap.objs.size) { s with heap := s.heap.push { cls := .type "set_iterator", data := .fields #[.int 0 0, .int 0 0, .ref a, .int es.size 0, .int ep 0] } }) : wpAny (model prog w) A (pyIter (.ref a)) Q E s := by
  have hT : s.TypeIs (.ref a) "set" := ⟨_, h.1, rfl⟩
  refine wpAny_pyIter_slot hT F.slot_set_iter (wpAny_call_entry F.slot_set_iter hT SF.entry_set_iter ?_ (F.args_set_iter_1 _))
  unfold Builtin.«frozenset.__iter__»
  refine wpAny_bind (wpAny_pure (a := a) ?_)
  refine wpAny_bind ?_
  unfold Builtin.Frozenset.sizeOf setEntries
  refine wpAny_bind (wpAny_bind (state_ok hf h (wpAny_pure ?_)))
  refine wpAny_pure ?_
  refine wpAny_bind ?_
  unfold setDrawn
  refine wpAny_bind (state_ok hf h ?_)
  dsimp only
  refine wpAny_bind (byText_ok ?_)
  refine wpAny_pure ?_
  refine wpAny_ite_split (fun hab => absurd (show (!w.params.followText "set-order" && false) = true from hab) (by simp)) (fun _ => ?_)
  refine wpAny_bind (wpAny_pure (a := rawInt 0) ?_)
  unfold setEpoch
  refine wpAny_bind (wpAny_bind (state_ok hf h (wpAny_pure ?_)))
  unfold newFields
  refine wpAny_bind (wpAny_newObj_type (wpAny_pure ⟨_, rfl, "set_iterator", _, ⟨_, Heap.get?_push_size _ rfl, rfl⟩, SF.slot_set_iterator_next.lookup, ?_⟩))
  exact hQ
end
end Mine

open PySem PySem.W PyProof.Rows
set_option Elab.async false
set_option maxRecDepth 100000
namespace Mine
section
variable {prog : Program} {w : World} {A : Around} {E : Value → Shared → Prop} {s : Shared}

theorem pyNext_set_item {it a : Addr} {f : Nat} {es : Array (Int × Value)} {ep i : Nat} {e : Int × Value} {Q : Option Value → Shared → Prop} (hf : f < 64) (h : SetAt s.heap a f (!w.params.followText "set-order") es ep)
    (hit : IsSetIter s.heap it a (slotAt (w.params.followText "set-order") f i) i es.size ep) (he : (ordOf w a ep es)[i]? = some e)
    (hQ : ∀ h', IsSetIter h' it a (slotAt (w.params.followText "set-order") f (i + 1)) (i + 1) es.size ep → Heap.SameBut it s.heap h' → Q (some e.2) { s with heap := h' }) :
    wpAny (model prog w) A (pyNext (.ref it)) Q E s := by
  obtain ⟨o, ho, hc, hd⟩ := id hit
  have hi : i ≤ (keysOf f).length := by
    have := (Array.getElem?_eq_some_iff.mp he).1
    rw [ord_size, h.2.size] at this
    omega
  unfold pyNext
  refine wpAny_bind (wpAny_attempt (wpAny_callSpecial?_slot (name := Str.ofString "__next__") hit.typeIs SF.slot_set_iterator_next
    (wpAny_call_entry SF.slot_set_iterator_next hit.typeIs SF.entry_set_iterator_next ?_ (SF.args_set_iterator_next _))))
  unfold Builtin.«set_iterator.__next__»
  refine wpAny_bind (wpAny_pure (a := (Value.ref it, [])) ?_)
  refine wpAny_bind (wpAny_fieldsOf ho hd ?_)
  dsimp only
  unfold setEntries
  refine wpAny_bind (wpAny_bind (state_ok hf h (wpAny_pure ?_)))
  rw [if_neg (by simp)]
  simp only [Int.toNat_natCast]
  refine wpAny_bind (next_ok hf h hi ?_)
  rw [he]
  dsimp only [Option.map_some]
  refine wpAny_bind (wpAny_setField ho hd (by simp) ?_)
  have hd1 : (Obj.mapFields (·.setIfInBounds 0 (rawInt (slotAt (w.params.followText "set-order") f (i + 1) : Nat))) o).data = .fields #[.int (slotAt (w.params.followText "set-order") f (i + 1) : Nat) 0, .int i 0, .ref a, .int es.size 0, .int ep 0] := by
    rw [Obj.data_mapFields hd]; simp [rawInt]
  have ho1 := Heap.get?_update_self (Obj.mapFields (·.setIfInBounds 0 (rawInt (slotAt (w.params.followText "set-order") f (i + 1) : Nat)))) ho (Obj.isFreed_of_fields hd1)
  refine wpAny_bind (wpAny_setField ho1 hd1 (by simp) ?_)
  have hd2 : (Obj.mapFields (·.setIfInBounds 1 (rawInt ((i : Int) + 1))) (Obj.mapFields (·.setIfInBounds 0 (rawInt (slotAt (w.params.followText "set-order") f (i + 1) : Nat))) o)).data = .fields #[.int (slotAt (w.params.followText "set-order") f (i + 1) : Nat) 0, .int ((i + 1 : Nat) : Int) 0, .ref a, .int es.size 0, .int ep 0] := by
    rw [Obj.data_mapFields hd1]; simp [rawInt]
  have ho2 := Heap.get?_update_self (Obj.mapFields (·.setIfInBounds 1 (rawInt ((i : Int) + 1)))) ho1 (Obj.isFreed_of_fields hd2)
  show wpAny _ _ (ret e.2) _ _ _
  refine wpAny_pure ⟨_, rfl, wpAny_pure (hQ _ ⟨_, ho2, ?_, hd2⟩ ((Heap.SameBut.update ..).trans (Heap.SameBut.update ..)))⟩
  exact (Obj.cls_mapFields ..).trans ((Obj.cls_mapFields ..).trans hc)

theorem pyNext_set_end {it a : Addr} {f : Nat} {es : Array (Int × Value)} {ep : Nat} {Q : Option Value → Shared → Prop} (hh : A.handled = none) (hf : f < 64) (h : SetAt s.heap a f (!w.params.followText "set-order") es ep)
    (hit : IsSetIter s.heap it a (slotAt (w.params.followText "set-order") f es.size) es.size es.size ep)
    (hQ : ∀ h', Heap.ExtBut it s.heap h' → Q none { s with heap := h' }) :
    wpAny (model prog w) A (pyNext (.ref it)) Q E s := by
  obtain ⟨o, ho, hc, hd⟩ := id hit
  unfold pyNext
  refine wpAny_bind (wpAny_attempt (wpAny_callSpecial?_slot (name := Str.ofString "__next__") hit.typeIs SF.slot_set_iterator_next
    (wpAny_call_entry SF.slot_set_iterator_next hit.typeIs SF.entry_set_iterator_next ?_ (SF.args_set_iterator_next _))))
  unfold Builtin.«set_iterator.__next__»
  refine wpAny_bind (wpAny_pure (a := (Value.ref it, [])) ?_)
  refine wpAny_bind (wpAny_fieldsOf ho hd ?_)
  dsimp only
  unfold setEntries
  refine wpAny_bind (wpAny_bind (state_ok hf h (wpAny_pure ?_)))
  rw [if_neg (by simp)]
  simp only [Int.toNat_natCast]
  refine wpAny_bind (next_ok hf h (by rw [h.2.size]; exact Nat.le_refl _) ?_)
  rw [Array.getElem?_eq_none (by rw [ord_size]; exact Nat.le_refl _)]
  dsimp only [Option.map_none]
  refine wpAny_bind (wpAny_setField ho hd (by simp) ?_)
  show wpAny _ _ (newExc (.type "StopIteration") [] >>= _) _ _ _
  refine wpAny_bind ?_
  simp only [newExc, newTuple]
  refine wpAny_bind (wpAny_newObj_type ?_ (by size_fits))
  refine wpAny_bind (m := firstArgMember _ _) (wpAny_of_eq (a := Value.none) (by first | rfl | (simp only [firstArgMember]; rfl)) ?_)
  refine wpAny_newObj_type ?_ (by size_fits)
  simp only [raiseNew]
  refine wpAny_bind (wpAny_handled ?_)
  rw [show A.in1.handled = none from hh]
  refine wpAny_bind (wpAny_pure (wpAny_throw ?_))
  refine wpAny_bind (wpAny_isInstance (T := "StopIteration") (b := true) ⟨_, Heap.get?_push_size _ rfl, rfl⟩ isSubtype_stop ?_)
  exact wpAny_pure (hQ _ (((Heap.SameBut.update ..).extBut.push _).push _))

theorem pyIter_setiter {it a : Addr} {slot i n ep : Nat} {Q : Value → Shared → Prop} (hit : IsSetIter s.heap it a slot i n ep) (h : Q (.ref it) s) : wpAny (model prog w) A (pyIter (.ref it)) Q E s := by
  refine wpAny_pyIter_slot hit.typeIs SF.slot_set_iterator_iter (wpAny_call_entry SF.slot_set_iterator_iter hit.typeIs SF.entry_set_iterator_iter ?_ (SF.args_set_iterator_iter _))
  show wpAny _ _ (ret (.ref it)) _ _ s
  exact wpAny_pure ⟨_, rfl, "set_iterator", _, hit.typeIs, SF.slot_set_iterator_next.lookup, h⟩

theorem walks_set (hh : A.handled = none) (I a : Addr) (hne : a ≠ I) {f : Nat} (hf : f < 64) (es : Array (Int × Value)) (ep : Nat) :
    Walks prog w A I [I, a] [I] es.size (fun i v => ∃ e, (ordOf w a ep es)[i]? = some e ∧ v = e.2) (fun i h => IsSetIter h I a (slotAt (w.params.followText "set-order") f i) i es.size ep ∧ SetAt h a f (!w.params.followText "set-order") es ep) where
  sub := fun b hb => by simp at hb; simp [hb]
  frame := fun _ _ _ st hk => ⟨let ⟨o, ho, r⟩ := st.1; ⟨o, hk I (by simp) o ho, r⟩, hk a (by simp) _ st.2.1, st.2.2⟩
  item := fun i s Q E hi st hQ => by
    obtain ⟨e, he⟩ : ∃ e, (ordOf w a ep es)[i]? = some e := ⟨_, Array.getElem?_eq_getElem (by rw [ord_size]; exact hi)⟩
    refine pyNext_set_item hf st.2 st.1 he fun h' hit' hs' => ?_
    exact hQ _ h' s.toks ⟨_, he, rfl⟩ ⟨hit', hs'.extBut a _ hne st.2.1, st.2.2⟩ fun b o hb e => hs'.extBut b o (fun h => hb (by simp [h])) e
  done := fun s Q E st hQ => pyNext_set_end hh hf st.2 st.1 fun h' he' => hQ h' s.toks fun b o hb e => he' b o (fun h => hb (by simp [h])) e
  self := fun _ _ _ _ st hQ => pyIter_setiter st.1 hQ

theorem hint_set {r : Addr} {Q : Bool → Shared → Prop} (hT : s.TypeIs (.ref r) "set") (h : Q false s) : wpAny (model prog w) A (Builtin.List.listLengthHint (.ref r)) Q E s := by
  unfold Builtin.List.listLengthHint
  refine wpAny_bind (wpAny_specialOf hT F.slot_set_len.lookup ?_)
  generalize hid : ("set.__len__" : String) = id0
  wp_delta
  rw [show splitId id0 = some ("set", "__len__") from by subst hid; decide +kernel]
  subst hid
  refine wpAny_bind (wpAny_isInstance (T := "set") (b := true) hT (by rw [isSubtype_type]; kernel_rfl) ?_)
  refine wpAny_ite_split (fun hab => absurd hab (by decide)) (fun _ => ?_)
  refine wpAny_ite_split (fun _ => ?_) (fun hab => absurd (by decide +kernel) hab)
  refine wpAny_bind (wpAny_typeOf hT ?_)
  exact wpAny_pure h

theorem src_set {a : Addr} {f : Nat} (hf : f < 64) (es : Array (Int × Value)) (ep : Nat) :
    KdlSrc prog w "set" a a es.size (fun i v => ∃ e, (ordOf w a ep es)[i]? = some e ∧ v = e.2) (fun h => SetAt h a f (!w.params.followText "set-order") es ep) where
  type := fun _ hm => ⟨_, hm.1, rfl⟩
  there := fun _ hm => ⟨Heap.lt_size hm.1, Heap.lt_size hm.1⟩
  keep := fun _ _ hm hk => ⟨hk a (.inl rfl) _ hm.1, hm.2⟩
  notList := by decide
  notTuple := by decide
  hint := fun _ _ _ _ hm hq => hint_set ⟨_, hm.1, rfl⟩ hq
  iter := fun _ s hh hm => ⟨_, _, (fun _ _ hq => pyIter_set hf hm hq), walks_set hh _ a (Nat.ne_of_lt (Heap.lt_size hm.1)) hf es ep, ⟨⟨_, Heap.get?_push_size _ rfl, rfl, by simp [slotAt]⟩, Heap.get?_push_of_some _ hm.1, hm.2⟩⟩
end
end Mine

open PySem PySem.W PyProof.Rows
set_option Elab.async false
set_option maxRecDepth 100000
namespace Mine

def bitsOf (ns : List Nat) : Nat := ns.foldl (fun f k => f ||| 2 ^ k) 0
theorem bitsGo_lt : ∀ (ns : List Nat) (f : Nat), f < 64 → (∀ k ∈ ns, k < 6) → ns.foldl (fun f k => f ||| 2 ^ k) f < 64
  | [], _, h, _ => h
  | k :: r, f, h, h6 => bitsGo_lt r _ (or_lt f h k (h6 k List.mem_cons_self)) fun j hj => h6 j (List.mem_cons_of_mem _ hj)
theorem bits_lt {ns : List Nat} (h6 : ∀ k ∈ ns, k < 6) : bitsOf ns < 64 := bitsGo_lt ns 0 (by decide) h6
theorem bits_take {ns : List Nat} {i : Nat} (h : i < ns.length) : bitsOf (ns.take (i + 1)) = bitsOf (ns.take i) ||| 2 ^ (ns.getD i 0) := by
  unfold bitsOf
  rw [List.take_succ_eq_append_getElem h, List.foldl_append]
  simp [List.getD_eq_getElem?_getD, h]

section
variable {prog : Program} {w : World} {A : Around} {R : Result → Shared → Prop} {I : Addr} {fp wr : List Addr} {G : Array GenState → Array GenState → Prop} {n : Nat} {P : Nat → Value → Prop} {St : Nat → Shared → Prop}
theorem upd_loop (W : WalksS prog w A.in1 I fp wr G n P St) (S : Addr) (hSf : S ∉ fp) (led : Bool) (ns : List Nat) (hn : ns.length = n) (h6 : ∀ k ∈ ns, k < 6) (hval : ∀ i v, P i v → ∃ t, v = .int (Int.ofNat (ns.getD i 0)) t) :
    ∀ (k i : Nat) (s : Shared), n - i = k → i ≤ n → St i s → SetIs s.heap S (bitsOf (ns.take i)) led →
      (∀ s', Moved (S :: wr) G s s' → SetIs s'.heap S (bitsOf ns) led → R (.ok (.ret .none)) s') →
      codeAny (model prog w) A (.builtin "set.update.loop" ⟨[.ref S, .ref I], []⟩) R s := by
  have hSw : S ∉ wr := fun h => hSf (W.sub _ h)
  have hsub : ∀ b ∈ wr, b ∈ S :: wr := fun b hb => List.mem_cons_of_mem _ hb
  intro k
  induction k with
  | zero =>
    intro i s hk hi hst hS hR
    have hin : i = n := by omega
    subst hin
    refine codeAny_builtin F.entry_set_update_loop ?_
    rw [Around.under_plainId F.plain_set_update_loop _]
    show wpAny _ A.in1 (pyNext (.ref I) >>= _) _ _ s
    refine wpAny_bind (W.done s _ _ hst fun s' hm => ?_)
    show wpAny _ A.in1 (ret Value.none) _ _ s'
    refine wpAny_pure (hR s' (hm.mono hsub) ?_)
    obtain ⟨es, ep, ho, ok⟩ := hS
    rw [List.take_of_length_le (by omega)] at ho ok
    exact ⟨es, ep, hm.heap S _ hSw ho, ok⟩
  | succ k ih =>
    intro i s hk hi hst hS hR
    have hlt : i < n := by omega
    refine codeAny_builtin F.entry_set_update_loop ?_
    rw [Around.under_plainId F.plain_set_update_loop _]
    show wpAny _ A.in1 (pyNext (.ref I) >>= _) _ _ s
    refine wpAny_bind (W.item i s _ _ hlt hst fun v s' hP hst' hm => ?_)
    obtain ⟨t, rfl⟩ := hval i v hP
    have hS' : SetIs s'.heap S (bitsOf (ns.take i)) led := by
      obtain ⟨es, ep, ho, ok⟩ := hS
      exact ⟨es, ep, hm.heap S _ hSw ho, ok⟩
    have hk6 : ns.getD i 0 < 6 := by
      rw [List.getD_eq_getElem?_getD, List.getElem?_eq_getElem (by omega)]
      exact h6 _ (List.getElem_mem _)
    show wpAny _ A.in1 (holding [Value.int (Int.ofNat (ns.getD i 0)) t] (setAdd S (.int (Int.ofNat (ns.getD i 0)) t)) >>= _) _ _ s'
    refine wpAny_bind (wpAny_holding ?_)
    unfold setAdd
    refine wpAny_holding ?_
    refine wpAny_bind ((intKind prog w).pyHash (k := Int.ofNat (ns.getD i 0)) (intKind_is _ _ _ _) ?_)
    refine add_ok (s := { s' with toks := s'.toks + 1 }) hS' (bits_lt fun k hk => h6 k (List.mem_of_mem_take hk)) hk6 fun b h' hsb hS2 => ?_
    rw [← bits_take (by omega)] at hS2
    refine wpAny_pure ⟨plainId_quiet F.plain_set_update_loop _, ih (i + 1) _ (by omega) hlt (W.frame _ s' _ _ hst' (Nat.le_succ _) fun b hb o e => ?_) hS2 fun s'' hm'' hS'' => ?_⟩
    · rw [hsb.2 b (fun h : b = S => hSf (by rw [← h]; exact hb))]; exact e
    · refine hR s'' (Moved.trans W.gtrans ((hm.mono hsub).then_heap (Nat.le_succ _) fun b o hb e => ?_) hm'') hS''
      rw [hsb.2 b (fun h : b = S => hb (by rw [h]; exact List.mem_cons_self))]; exact e
end

section
variable {prog : Program} {w : World} {A : Around} {E : Value → Shared → Prop} {s : Shared}
theorem set_new_1 (a : Value) {Q₁ : Value → Shared → Prop}
    (h : Q₁ (.ref s.heap.objs.size) { s with heap := s.heap.push { cls := .type "set", dict := none, data := .set #[] 0 (.fresh 0 0 (!w.params.followText "set-order")) } }) :
    codeAny (model prog w) A (.call (.builtin "set.__new__") ⟨[.type "set", a], []⟩) (wants Q₁ E) s := by
  refine codeAny_of_tree ?_
  show wpAny _ A.in1 (do checkBuiltinCall "set.__new__" ⟨[.type "set", a], []⟩; again (.builtin "set.__new__" ⟨[.type "set", a], []⟩)) _ _ s
  refine wpAny_bind (wpAny_of_eq (F.newCall_set_1 a) (wpAny_pure ⟨plainId_quiet F.plain_set_new _, codeAny_builtin F.entry_set_new ?_⟩))
  rw [Around.under_plainId F.plain_set_new _]
  unfold Builtin.«set.__new__» Builtin.Frozenset.newClass
  have hsub := sub_set_self
  obtain ⟨hp, g, d, tk, os⟩ := s
  dsimp only
  wp_walk
  refine wpAny_askSetting (wpAny_pure ?_)
  dsimp only
  simp only [newObj]
  refine wpAny_bind (wpAny_alloc (wpAny_pure ?_))
  exact wpAny_pure h

theorem fresh_tab (led : Bool) : SetTable.fresh 0 0 led = tabOf 0 led := by cases led <;> decide +kernel

set_option maxHeartbeats 3200000 in
theorem call_set {l : Addr} {items : Array Value} {ns : List Nat} {Q : Value → Shared → Prop}
    (hh : A.handled = none) (hl : s.heap.IsList l items) (hi : IntsAre items.toList (ns.map Int.ofNat)) (h6 : ∀ k ∈ ns, k < 6)
    (h : ∀ (h' : Heap) (tk : Nat), SetIs h' s.heap.objs.size (bitsOf ns) (!w.params.followText "set-order") →
      (∀ b o, b < s.heap.objs.size → s.heap.get? b = some o → h'.get? b = some o) → Q (.ref s.heap.objs.size) { s with heap := h', toks := tk }) :
    wpAny (model prog w) A (call (.type "set") [.ref l]) Q E s := by
  obtain ⟨c, tl, hmro⟩ := F.called_set.mro
  have hmade := F.called_set.made
  have hsub := F.called_set.sub
  have hlen : ns.length = items.size := by
    have := IntsAre.length hi
    simpa using this.symm
  refine wpAny_call (codeAny_of_tree ?_)
  show wpAny _ _ (callAny (.type "set") _) _ _ _
  refine wpAny_pure ⟨Code.quiet_builtin _ (by decide +kernel), codeAny_builtin F.entry_type_call ?_⟩
  rw [Around.under_plain (weight_type_call_type "set" [.ref l] []) rfl]
  have h1 := F.called_set.notType
  have h2 := F.called_set.canCreate
  have hct := F.typeCall_set_1 (.ref l)
  repeat (any_goals (first | assumption | wp_step))
  generalize hled : (!w.params.followText "set-order") = led at h
  refine codeAny_mono (set_new_1 (.ref l) (E := E) (Q₁ := fun obj s₁ => obj = .ref s.heap.objs.size ∧ s₁ = { s with heap := s.heap.push { cls := .type "set", dict := none, data := .set #[] 0 (.fresh 0 0 led) } }) ⟨rfl, by rw [hled]⟩) fun r s₁ hr => ?_
  cases r with
  | error e => exact hr
  | ok fl =>
    cases fl with
    | ret obj =>
      obtain ⟨rfl, rfl⟩ := hr
      have hS : (s.heap.push { cls := .type "set", dict := none, data := .set #[] 0 (.fresh 0 0 led) }).get? s.heap.objs.size = some { cls := .type "set", dict := none, data := .set #[] 0 (.fresh 0 0 led) } := Heap.get?_push_size _ rfl
      have hT : Shared.TypeIs { s with heap := s.heap.push { cls := .type "set", dict := none, data := .set #[] 0 (.fresh 0 0 led) } } (.ref s.heap.objs.size) "set" := ⟨_, hS, rfl⟩
      have hli := F.called_set.init.lookup
      have hbi := F.called_set.init.bind (.ref s.heap.objs.size)
      repeat (any_goals (first | assumption | wp_step))
      refine codeAny_mono (codeAny_call_builtin (R := wants (fun r s₂ => r = .none ∧ ∃ h' tk, s₂ = { s with heap := h', toks := tk } ∧
          SetIs h' s.heap.objs.size (bitsOf ns) led ∧
          (∀ b o, b < s.heap.objs.size → s.heap.get? b = some o → h'.get? b = some o)) E) F.called_set.init.plain F.entry_set_init (check_set_init_1 hT ?_)) fun r₂ s₂ hr₂ => ?_
      · obtain ⟨ol, hol, hcl, nl, hdl⟩ := hl
        obtain ⟨ocls, odict, odata, oslots⟩ := ol
        simp only at hcl hdl
        subst hcl; subst hdl
        have hol' : (s.heap.push { cls := .type "set", dict := none, data := .set #[] 0 (.fresh 0 0 led) }).get? l = some { cls := .type "list", dict := odict, data := .seq items nl, slots := oslots } := Heap.get?_push_of_some _ hol
        have hsls := F.sub_list_set
        have hslf := F.sub_list_frozenset
        have hne : (Value.type "list" == Value.type "dict") = false := by decide
        have hl1 : (s.heap.push { cls := .type "set", dict := none, data := .set #[] 0 (.fresh 0 0 led) }).IsList l items := ⟨_, hol', rfl, nl, rfl⟩
        unfold Builtin.«set.__init__» noKeywords Builtin.Frozenset.updateFrom
        generalize hPI : pyIter = PI
        wp_walk
        subst hPI
        refine wpAny_pyIter_list hl1 ?_
        refine wpAny_bind (wpAny_runValue ?_)
        have hlS : l < s.heap.objs.size := Heap.lt_size hol
        have hh3 : A.in1.in1.in1.handled = none := by simp [hh]
        have hneI : l ≠ (s.heap.push { cls := .type "set", dict := none, data := .set #[] 0 (.fresh 0 0 led) }).objs.size := by
          rw [Heap.size_push]; exact Nat.ne_of_lt (Nat.lt_succ_of_lt hlS)
        have hSf : s.heap.objs.size ∉ [(s.heap.push { cls := .type "set", dict := none, data := .set #[] 0 (.fresh 0 0 led) }).objs.size, l] := by
          rw [Heap.size_push]; simp only [List.mem_cons, List.not_mem_nil, or_false, not_or]
          exact ⟨Nat.ne_of_lt (Nat.lt_succ_self _), Nat.ne_of_gt hlS⟩
        have hval : ∀ (i : Nat) (v : Value), items[i]? = some v → ∃ t, v = .int (Int.ofNat (ns.getD i 0)) t := fun i v hv => by
          obtain ⟨t, e⟩ := IntsAre.int_at hi i v (by rw [Array.getElem?_toList]; exact hv)
          have hlt := (Array.getElem?_eq_some_iff.mp hv).1
          refine ⟨t, ?_⟩
          rw [e]
          congr 1
          rw [List.getD_eq_getElem?_getD, List.getD_eq_getElem?_getD, List.getElem?_map, List.getElem?_eq_getElem (by omega)]
          rfl
        refine upd_loop ((Walks.list hh3 _ l hneI items).toS) s.heap.objs.size
          hSf led ns hlen h6 hval (items.size - 0) 0 _ (by omega) (Nat.zero_le _)
          ⟨⟨_, Heap.get?_push_size _ rfl, rfl, rfl⟩, (hl1.push _)⟩ ?hS0 ?hR
        case hS0 =>
          have hget : ((s.heap.push { cls := .type "set", dict := none, data := .set #[] 0 (.fresh 0 0 led) }).push { cls := .type "list_iterator", data := .fields #[.ref l, .int 0 0] }).get? s.heap.objs.size
              = some { cls := .type "set", dict := none, data := .set #[] 0 (.fresh 0 0 led) } := Heap.get?_push_of_some _ hS
          rw [fresh_tab] at hget
          exact ⟨#[], 0, hget, by rw [List.take_zero]; decide, fun e he => by simp at he⟩
        case hR =>
          intro s' hm hS'
          obtain ⟨h', g', d', tk', os'⟩ := s'
          have eg : g' = s.gens := hm.gens
          have ed : d' = s.drawn := hm.drawn
          have eo : os' = s.os := hm.os
          subst eg; subst ed; subst eo
          show wpAny _ _ _ _ _ _
          refine wpAny_pure ?_
          show wpAny _ _ (ret Value.none) _ _ _
          refine wpAny_pure ⟨rfl, h', tk', rfl, hS', fun b o hb e => ?_⟩
          have hb1 : b ≠ s.heap.objs.size := Nat.ne_of_lt hb
          have hb2 : b ≠ (s.heap.push { cls := .type "set", dict := none, data := .set #[] 0 (.fresh 0 0 led) }).objs.size := by
            rw [Heap.size_push]; exact Nat.ne_of_lt (Nat.lt_succ_of_lt hb)
          exact hm.heap b o (by simp only [List.mem_cons, List.not_mem_nil, or_false, not_or]; exact ⟨hb1, hb2⟩) (Heap.get?_push_of_some _ (Heap.get?_push_of_some _ e))
      · cases r₂ with
        | error e => exact hr₂
        | ok fl₂ =>
          cases fl₂ with
          | ret r =>
            obtain ⟨rfl, h', tk, rfl, hS', hk'⟩ := hr₂
            repeat (any_goals (first | assumption | wp_step))
            exact h _ _ hS' hk'
          | _ => exact hr₂.elim
    | _ => exact hr.elim
end
end Mine

open PySem PySem.W PyProof.Rows
set_option Elab.async false
set_option maxRecDepth 100000
namespace Mine

theorem asc_unique {l m : List Int} (p : l.Perm m) (h1 : l.Pairwise (· ≤ ·)) (h2 : m.Pairwise (· ≤ ·)) : l = m :=
  List.Perm.eq_of_pairwise (fun a b _ _ h h' => Int.le_antisymm h h') h1 h2 p
theorem keys_asc (f : Nat) : ((keysOf f).map Int.ofNat).Pairwise (· ≤ ·) := by
  unfold keysOf
  rw [List.pairwise_map]
  exact ((List.pairwise_lt_range).filter _).imp fun h => by simp only [Int.ofNat_eq_natCast]; omega

theorem ints_of_perm : ∀ {l m : List (Int × Value)}, l.Perm m → (∀ e ∈ m, ∃ t, e.2 = .int e.1 t) → IntsAre (l.map (·.2)) (l.map (·.1))
  | l, m, p, h => by
    have h' : ∀ e ∈ l, ∃ t, e.2 = .int e.1 t := fun e he => h e (p.mem_iff.mp he)
    clear h p
    induction l with
    | nil => exact .nil
    | cons e r ih =>
      obtain ⟨t, et⟩ := h' e List.mem_cons_self
      rw [List.map_cons, List.map_cons, et]
      exact .cons _ t (ih fun x hx => h' x (List.mem_cons_of_mem _ hx))

section
variable {prog : Program} {w : World} {A : Around} {E : Value → Shared → Prop} {s : Shared}
theorem sorted_set {a : Addr} {f : Nat} {Q : Value → Shared → Prop} (hf : f < 64) (hS : SetIs s.heap a f (!w.params.followText "set-order")) (hh : A.handled = none)
    (hQ : ∀ D h' tk out, h'.IsList D out → s.heap.get? D = none → IntsAre out.toList ((keysOf f).map Int.ofNat) → (∀ b o, s.heap.get? b = some o → h'.get? b = some o) → Q (.ref D) { s with heap := h', toks := tk }) :
    wpAny (model prog w) A (call (.builtin "sorted") [.ref a]) Q E s := by
  obtain ⟨es, ep, ho, ok⟩ := hS
  have hsz := ok.size
  have h6 := keys_le f
  refine Calls.call_function_entry kind_sorted plain_sorted entry_sorted (args_sorted1 _) ?_
  unfold Builtin.«sorted»
  refine wpAny_bind (m := checkCount "sorted" 1 1 _) (wpAny_pure ?_)
  refine wpAny_bind (kdu_collect (A := A.in1) (src_set hf es ep) hh ⟨ho, ok⟩ (by rw [sizeLine_eq]; omega) fun h' tk acc hk hacc => ?_)
  have hl : acc.toList.length = es.size := by rw [Array.length_toList]; exact hacc.1
  refine wpAny_bind (wpAny_newList ?_ (by rw [hl, sizeLine_eq]; omega))
  have hv : acc.toList = (ordOf w a ep es).toList.map (·.2) := by
    apply List.ext_getElem?
    intro i
    rcases Nat.lt_or_ge i es.size with hi | hi
    · have hi' : i < acc.size := by rw [hacc.1]; exact hi
      have e1 : acc[i]? = some acc[i] := Array.getElem?_eq_getElem hi'
      obtain ⟨e, he, ev⟩ := hacc.2 i _ e1
      rw [Array.getElem?_toList, e1, List.getElem?_map, Array.getElem?_toList, he, ev]; rfl
    · rw [List.getElem?_eq_none (by rw [hl]; exact hi), List.getElem?_eq_none (by rw [List.length_map, Array.length_toList, ord_size]; exact hi)]
  have hI := ints_of_perm (ord_perm w a ep es) ok.2
  rw [← hv] at hI
  have hoL : (h'.push (seqObj "list" acc.toList.toArray 0)).get? h'.objs.size = some (seqObj "list" acc.toList.toArray 0) := Heap.get?_push_size _ rfl
  refine wpAny_bind (wpAny_holding (wpAny_call_entry slot_list_sort ⟨_, hoL, rfl⟩ entry_list_sort (list_sort_tree hoL hI (by rw [hl]; omega) fun out ns' a1 a2 a3 => ⟨_, rfl, ?_⟩) (args_list_sort _)))
  have hD : s.heap.get? h'.objs.size = none := by
    cases e : s.heap.get? h'.objs.size with
    | none => rfl
    | some o => exact absurd (Heap.lt_size (hk _ _ e)) (Nat.lt_irrefl _)
  have hns : ns' = (keysOf f).map Int.ofNat := by
    refine asc_unique (a2.trans ?_) a3 (keys_asc f)
    rw [← ok.1]
    exact (ord_perm w a ep es).map _
  subst hns
  refine wpAny_pure ⟨_, rfl, hQ h'.objs.size _ tk out ?_ hD a1 fun b o e => ?_⟩
  · obtain ⟨e, he⟩ := sortedHeap_at (vs := acc.toList) (out := out) hoL
    exact ⟨_, he, rfl, _, rfl⟩
  · have hb : b < h'.objs.size := Heap.lt_size (hk b o e)
    have := sortedHeap_old (h := h'.push (seqObj "list" acc.toList.toArray 0)) (a := h'.objs.size) (vs := acc.toList) (out := out) (Nat.ne_of_lt hb) (by rw [Heap.size_push]; exact Nat.lt_succ_of_lt hb)
    exact this.trans (Heap.get?_push_of_some _ (hk b o e))
end
end Mine

open PySem PySem.W PyProof.Rows
set_option Elab.async false
set_option maxRecDepth 100000
namespace Mine
section
variable {prog : Program} {w : World} {A : Around} {E : Value → Shared → Prop} {s : Shared} {R : Result → Shared → Prop}
theorem cmp_Gt {a b : Int} {t u : Tok} {Q : Value → Shared → Prop} (h : Q (.bool (decide (a > b))) s) : wpAny (model prog w) A (richCompare .Gt (.int a t) (.int b u)) Q E s :=
  CmpOf.ints_gt (P := fun i v => v = if i = 0 then .int a t else .int b u) (fun i => if i = 0 then a else b) (fun i v e => by by_cases q : i = 0 <;> simp_all) 0 1 _ _ s Q E rfl rfl h
theorem cmp_Lt {a b : Int} {t u : Tok} {Q : Value → Shared → Prop} (h : Q (.bool (decide (a < b))) s) : wpAny (model prog w) A (richCompare .Lt (.int a t) (.int b u)) Q E s :=
  CmpOf.ints_lt (P := fun i v => v = if i = 0 then .int a t else .int b u) (fun i => if i = 0 then a else b) (fun i v e => by by_cases q : i = 0 <;> simp_all) 0 1 _ _ s Q E rfl rfl h
def maxStep (b x : Int) : Int := if x > b then x else b

theorem max_loop (hh : A.handled = none) {l I S : Addr} (hlI : l ≠ I) (hSI : S ≠ I) (hSl : S ≠ l) {vs : List Value} {ns : List Int} (hI : IntsAre vs ns) (kw : List (Str × Value)) :
    ∀ (k j : Nat) (s : Shared) (b : Int) (t : Tok) (c : Nat), ns.length - j = k → j ≤ ns.length → s.heap.IsListIter I l j → s.heap.IsList l vs.toArray →
      s.heap.get? S = some { cls := .type "list", dict := none, data := .seq #[.int b t, .int b t] c, slots := #[] } →
      (∀ t' h' tk, (∀ x o, x ≠ S → x ≠ I → s.heap.get? x = some o → h'.get? x = some o) → R (.ok (.ret (.int ((ns.drop j).foldl maxStep b) t'))) { s with heap := h', toks := tk }) →
      codeAny (model prog w) A (.builtin "max.loop" ⟨[.ref I, .none, .ref S], kw⟩) R s := by
  have hname : (toString "max" ++ toString ".loop" : String) = "max.loop" := by decide
  have hlen : vs.toArray.size = ns.length := by simp [IntsAre.length hI]
  have W : Walks prog w A.in1 I [I, l] [I] vs.toArray.size (fun i v => vs.toArray[i]? = some v) (fun i h => h.IsListIter I l i ∧ h.IsList l vs.toArray) := Walks.list (A := A.in1) hh I l hlI vs.toArray
  intro k
  induction k with
  | zero =>
    intro j s b t c hk hj hit hl hS hR
    have hin : j = ns.length := by omega
    subst hin
    rw [List.drop_length] at hR
    refine codeAny_builtin F.entry_max_loop ?_
    rw [Around.under_plainId F.plain_max_loop _]
    show wpAny _ A.in1 (seqItems? (.ref S) >>= _) _ _ s
    refine wpAny_bind (wpAny_seqItems hS rfl ?_)
    show wpAny _ A.in1 (tryCatch (pyNext (.ref I)) _ >>= _) _ _ s
    refine wpAny_bind (wpAny_tryCatch (W.done s _ _ (hlen ▸ ⟨hit, hl⟩) fun h' tk hk' => ?_))
    have hS' := hk' S _ (by simpa using hSI) hS
    show wpAny _ A.in1 (updateSeq S (fun _ => #[]) >>= _) _ _ _
    refine wpAny_bind ?_
    refine wpAny_updateSeq hS' rfl (wpAny_bind (wpAny_letGo (wpAny_pure ?_)))
    exact hR t _ tk fun x o h1 h2 e => (Heap.get?_update_other _ _ (Ne.symm h1)).trans (hk' x o (by simpa using h2) e)
  | succ k ih =>
    intro j s b t c hk hj hit hl hS hR
    have hlt : j < ns.length := by omega
    refine codeAny_builtin F.entry_max_loop ?_
    rw [Around.under_plainId F.plain_max_loop _]
    show wpAny _ A.in1 (seqItems? (.ref S) >>= _) _ _ s
    refine wpAny_bind (wpAny_seqItems hS rfl ?_)
    show wpAny _ A.in1 (tryCatch (pyNext (.ref I)) _ >>= _) _ _ s
    refine wpAny_bind (wpAny_tryCatch (W.item j s _ _ (by omega) ⟨hit, hl⟩ fun v h' tk hP hst' hk' => ?_))
    obtain ⟨u, rfl⟩ := IntsAre.int_at hI j v (by simpa using hP)
    have hS' := hk' S _ (by simpa using hSI) hS
    have hd : ns.drop j = ns.getD j 0 :: ns.drop (j + 1) := by
      rw [List.drop_eq_getElem_cons hlt, List.getD_eq_getElem?_getD, List.getElem?_eq_getElem hlt]; rfl
    rw [hd, List.foldl_cons] at hR
    generalize hx : ns.getD j 0 = x at *
    show wpAny _ A.in1 (tryCatch (holding [.int x u, .int x u] (richCompare .Gt (.int x u) (.int b t) >>= _)) _ >>= _) _ _ _
    refine wpAny_bind (wpAny_tryCatch (wpAny_holding (wpAny_bind (cmp_Gt ?_))))
    refine wpAny_bind (wpAny_holding (wpAny_truthy_bool ?_))
    refine wpAny_bind (wpAny_letGo (wpAny_pure ?_))
    by_cases hb : x > b
    · rw [decide_eq_true hb]
      simp only [if_true]
      refine wpAny_bind ?_
      refine wpAny_updateSeq hS' rfl (wpAny_bind (wpAny_letGo ?_))
      rw [hname]
      have hst2 := W.frame _ h' _ hst' (fun y hy o e => (Heap.get?_update_other h' (Obj.mapSeq fun _ => #[.int x u, .int x u]) (show S ≠ y from fun q => by
        subst q
        rcases List.mem_cons.mp hy with q | q
        · exact hSI q
        · exact hSl (List.mem_singleton.mp q))).trans e)
      refine wpAny_pure ⟨plainId_quiet F.plain_max_loop _, ih (j + 1) _ x u _ (by omega) hlt hst2.1 hst2.2 (Heap.get?_update_self _ hS' rfl) fun t' h'' tk'' hk'' => ?_⟩
      unfold maxStep at hR
      rw [if_pos hb] at hR
      exact hR t' h'' tk'' fun y o h1 h2 e => hk'' y o h1 h2 ((Heap.get?_update_other _ _ (Ne.symm h1)).trans (hk' y o (by simpa using h2) e))
    · rw [decide_eq_false hb]
      simp only [Bool.false_eq_true, if_false]
      refine wpAny_bind (wpAny_letGo ?_)
      rw [hname]
      refine wpAny_pure ⟨plainId_quiet F.plain_max_loop _, ih (j + 1) _ b t c (by omega) hlt hst'.1 hst'.2 hS' fun t' h'' tk'' hk'' => ?_⟩
      unfold maxStep at hR
      rw [if_neg hb] at hR
      exact hR t' h'' tk'' fun y o h1 h2 e => hk'' y o h1 h2 (hk' y o (by simpa using h2) e)

def maxOf : List Int → Option Int
  | [] => none
  | x :: r => some (r.foldl maxStep x)

theorem max_first (hh : A.handled = none) {l I S : Addr} (hlI : l ≠ I) (hSI : S ≠ I) (hSl : S ≠ l) {vs : List Value} {ns : List Int} (hI : IntsAre vs ns) {kw : List (Str × Value)} {s : Shared} {c : Nat} (hit : s.heap.IsListIter I l 0) (hl : s.heap.IsList l vs.toArray)
    (hS : s.heap.get? S = some { cls := .type "list", dict := none, data := .seq #[] c, slots := #[] })
    (hR : ∀ m t' h' tk, maxOf ns = some m → (∀ x o, x ≠ S → x ≠ I → s.heap.get? x = some o → h'.get? x = some o) → R (.ok (.ret (.int m t'))) { s with heap := h', toks := tk })
    (hE : ∀ h' tk, ns = [] → (∀ x o, x ≠ S → x ≠ I → s.heap.get? x = some o → h'.get? x = some o) → ∃ n d r, kw = (n, d) :: r ∧ R (.ok (.ret d)) { s with heap := h', toks := tk }) :
      codeAny (model prog w) A (.builtin "max.loop" ⟨[.ref I, .none, .ref S], kw⟩) R s := by
  have hname : (toString "max" ++ toString ".loop" : String) = "max.loop" := by decide
  have W : Walks prog w A.in1 I [I, l] [I] vs.toArray.size (fun i v => vs.toArray[i]? = some v) (fun i h => h.IsListIter I l i ∧ h.IsList l vs.toArray) := Walks.list (A := A.in1) hh I l hlI vs.toArray
  refine codeAny_builtin F.entry_max_loop ?_
  rw [Around.under_plainId F.plain_max_loop _]
  show wpAny _ A.in1 (seqItems? (.ref S) >>= _) _ _ s
  refine wpAny_bind (wpAny_seqItems hS rfl ?_)
  show wpAny _ A.in1 (tryCatch (pyNext (.ref I)) _ >>= _) _ _ s
  cases hI with
  | nil =>
    refine wpAny_bind (wpAny_tryCatch (W.done s _ _ ⟨hit, hl⟩ fun h' tk hk' => ?_))
    obtain ⟨n, d, r, rfl, hr⟩ := hE h' tk rfl fun x o _ h2 e => hk' x o (by simpa using h2) e
    refine wpAny_bind (wpAny_rule ?_)
    exact wpAny_pure hr
  | cons x u hr =>
    rename_i vs ns
    refine wpAny_bind (wpAny_tryCatch (W.item 0 s _ _ (by simp) ⟨hit, hl⟩ fun v h' tk hP hst' hk' => ?_))
    have hv : v = .int x u := by simpa using hP.symm
    subst hv
    have hS' := hk' S _ (by simpa using hSI) hS
    show wpAny _ A.in1 (updateSeq S (fun _ => #[.int x u, .int x u]) >>= _) _ _ _
    refine wpAny_bind ?_
    refine wpAny_updateSeq hS' rfl ?_
    rw [hname]
    have hst2 := W.frame _ h' _ hst' (fun y hy o e => (Heap.get?_update_other h' (Obj.mapSeq fun _ => #[.int x u, .int x u]) (show S ≠ y from fun q => by
      subst q
      rcases List.mem_cons.mp hy with q | q
      · exact hSI q
      · exact hSl (List.mem_singleton.mp q))).trans e)
    refine wpAny_pure ⟨plainId_quiet F.plain_max_loop _, max_loop hh hlI hSI hSl (.cons x u hr) kw _ 1 _ x u _ rfl (by simp) hst2.1 hst2.2 (Heap.get?_update_self _ hS' rfl) fun t' h'' tk'' hk'' => ?_⟩
    exact hR _ t' h'' tk'' rfl fun y o h1 h2 e => hk'' y o h1 h2 ((Heap.get?_update_other _ _ (Ne.symm h1)).trans (hk' y o (by simpa using h2) e))

theorem args_max_d (x y : Value) : argsOk "max" ⟨[x], [(Str.ofString "default", y)]⟩ := by unfold argsOk; kernel_rfl

theorem call_max_d {l : Addr} {vs : List Value} {ns : List Int} {y : Value} {Q : Value → Shared → Prop} (hh : A.handled = none) (hl : s.heap.IsList l vs.toArray) (hI : IntsAre vs ns)
    (hQ : ∀ v h' tk, (match maxOf ns with | none => v = y | some m => ∃ t, v = .int m t) → (∀ x o, s.heap.get? x = some o → h'.get? x = some o) → Q v { s with heap := h', toks := tk }) :
    wpAny (model prog w) A (call (.builtin "max") [.ref l] [(Str.ofString "default", y)]) Q E s := by
  have hname : (toString "max" ++ toString ".loop" : String) = "max.loop" := by decide
  obtain ⟨ol, hol, _⟩ := id hl
  have hll : l < s.heap.objs.size := Heap.lt_size hol
  refine kmk_tree PySem.F.kind_max PySem.F.plain_max PySem.F.entry_max (args_max_d _ _) ?_
  show wpAny _ A.in1 (Builtin.Builtins.bindParams "max" ["key", "default"] 0 ⟨[], [(Str.ofString "default", y)]⟩ >>= _) _ _ s
  refine wpAny_bind (wpAny_of_eq (show Builtin.Builtins.bindParams "max" ["key", "default"] 0 ⟨[], [(Str.ofString "default", y)]⟩ = pure [none, some y] from rfl) ?_)
  refine wpAny_bind (wpAny_pure ?_)
  refine wpAny_bind (wpAny_pyIter_list hl ?_)
  refine wpAny_bind (wpAny_newList ?_ (Nat.zero_le _))
  rw [hname]
  have hS : (s.heap.push { cls := .type "list_iterator", data := .fields #[.ref l, .int 0 0] }).objs.size = s.heap.objs.size + 1 := size_push' ..
  refine wpAny_pure ⟨plainId_quiet PySem.F.plain_max_loop _, ?_⟩
  have keep : ∀ (h' : Heap), (∀ x o, x ≠ (s.heap.push { cls := .type "list_iterator", data := .fields #[.ref l, .int 0 0] }).objs.size → x ≠ s.heap.objs.size → ((s.heap.push { cls := .type "list_iterator", data := .fields #[.ref l, .int 0 0] }).push (seqObj "list" #[] 0)).get? x = some o → h'.get? x = some o) →
      ∀ x o, s.heap.get? x = some o → h'.get? x = some o := fun h' hk x o e => hk x o (by rw [hS]; exact Nat.ne_of_lt (Nat.lt_succ_of_lt (Heap.lt_size e))) (Nat.ne_of_lt (Heap.lt_size e)) (Heap.get?_push_of_some _ (Heap.get?_push_of_some _ e))
  have hSI : (s.heap.push { cls := .type "list_iterator", data := .fields #[.ref l, .int 0 0] }).objs.size ≠ s.heap.objs.size := by rw [hS]; exact Nat.ne_of_gt (Nat.lt_succ_self _)
  have hSl : (s.heap.push { cls := .type "list_iterator", data := .fields #[.ref l, .int 0 0] }).objs.size ≠ l := by rw [hS]; exact Nat.ne_of_gt (Nat.lt_succ_of_lt hll)
  refine max_first hh (Nat.ne_of_lt hll) hSI hSl hI
    ⟨_, Heap.get?_push_of_some _ (Heap.get?_push_size _ rfl), rfl, rfl⟩ ((hl.push _).push _) (Heap.get?_push_size _ rfl) (fun m t' h' tk hm hk => ?_) (fun h' tk hn hk => ⟨_, y, _, rfl, ?_⟩)
  · exact hQ _ h' tk (by rw [hm]; exact ⟨t', rfl⟩) (keep h' hk)
  · subst hn
    exact hQ y h' tk rfl (keep h' hk)

theorem call_max_1 {l : Addr} {vs : List Value} {ns : List Int} {m : Int} {Q : Value → Shared → Prop} (hh : A.handled = none) (hl : s.heap.IsList l vs.toArray) (hI : IntsAre vs ns) (hm : maxOf ns = some m)
    (hQ : ∀ t h' tk, (∀ x o, s.heap.get? x = some o → h'.get? x = some o) → Q (.int m t) { s with heap := h', toks := tk }) :
    wpAny (model prog w) A (call (.builtin "max") [.ref l]) Q E s := by
  have hname : (toString "max" ++ toString ".loop" : String) = "max.loop" := by decide
  obtain ⟨ol, hol, _⟩ := id hl
  have hll : l < s.heap.objs.size := Heap.lt_size hol
  refine call_function_tree F.kind_max F.plain_max F.entry_max (F.args_max1 _) ?_
  show wpAny _ A.in1 (Builtin.Builtins.bindParams "max" ["key", "default"] 0 ⟨[], []⟩ >>= _) _ _ s
  refine wpAny_bind (wpAny_of_eq (show Builtin.Builtins.bindParams "max" ["key", "default"] 0 ⟨[], []⟩ = pure [none, none] from rfl) ?_)
  refine wpAny_bind (wpAny_pure ?_)
  refine wpAny_bind (wpAny_pyIter_list hl ?_)
  refine wpAny_bind (wpAny_newList ?_ (Nat.zero_le _))
  rw [hname]
  have hS : (s.heap.push { cls := .type "list_iterator", data := .fields #[.ref l, .int 0 0] }).objs.size = s.heap.objs.size + 1 := size_push' ..
  refine wpAny_pure ⟨plainId_quiet PySem.F.plain_max_loop _, ?_⟩
  have keep : ∀ (h' : Heap), (∀ x o, x ≠ (s.heap.push { cls := .type "list_iterator", data := .fields #[.ref l, .int 0 0] }).objs.size → x ≠ s.heap.objs.size → ((s.heap.push { cls := .type "list_iterator", data := .fields #[.ref l, .int 0 0] }).push (seqObj "list" #[] 0)).get? x = some o → h'.get? x = some o) →
      ∀ x o, s.heap.get? x = some o → h'.get? x = some o := fun h' hk x o e => hk x o (by rw [hS]; exact Nat.ne_of_lt (Nat.lt_succ_of_lt (Heap.lt_size e))) (Nat.ne_of_lt (Heap.lt_size e)) (Heap.get?_push_of_some _ (Heap.get?_push_of_some _ e))
  have hSI : (s.heap.push { cls := .type "list_iterator", data := .fields #[.ref l, .int 0 0] }).objs.size ≠ s.heap.objs.size := by rw [hS]; exact Nat.ne_of_gt (Nat.lt_succ_self _)
  have hSl : (s.heap.push { cls := .type "list_iterator", data := .fields #[.ref l, .int 0 0] }).objs.size ≠ l := by rw [hS]; exact Nat.ne_of_gt (Nat.lt_succ_of_lt hll)
  refine max_first hh (Nat.ne_of_lt hll) hSI hSl hI
    ⟨_, Heap.get?_push_of_some _ (Heap.get?_push_size _ rfl), rfl, rfl⟩ ((hl.push _).push _) (Heap.get?_push_size _ rfl) (fun m' t' h' tk hm' hk => ?_) (fun h' tk hn hk => ?_)
  · rw [hm] at hm'
    cases hm'
    exact hQ t' h' tk (keep h' hk)
  · subst hn
    cases hm
def minStep (b x : Int) : Int := if x < b then x else b

theorem min_loop (hh : A.handled = none) {l I S : Addr} (hlI : l ≠ I) (hSI : S ≠ I) (hSl : S ≠ l) {vs : List Value} {ns : List Int} (hI : IntsAre vs ns) (kw : List (Str × Value)) :
    ∀ (k j : Nat) (s : Shared) (b : Int) (t : Tok) (c : Nat), ns.length - j = k → j ≤ ns.length → s.heap.IsListIter I l j → s.heap.IsList l vs.toArray →
      s.heap.get? S = some { cls := .type "list", dict := none, data := .seq #[.int b t, .int b t] c, slots := #[] } →
      (∀ t' h' tk, (∀ x o, x ≠ S → x ≠ I → s.heap.get? x = some o → h'.get? x = some o) → R (.ok (.ret (.int ((ns.drop j).foldl minStep b) t'))) { s with heap := h', toks := tk }) →
      codeAny (model prog w) A (.builtin "min.loop" ⟨[.ref I, .none, .ref S], kw⟩) R s := by
  have hname : (toString "min" ++ toString ".loop" : String) = "min.loop" := by decide
  have hlen : vs.toArray.size = ns.length := by simp [IntsAre.length hI]
  have W : Walks prog w A.in1 I [I, l] [I] vs.toArray.size (fun i v => vs.toArray[i]? = some v) (fun i h => h.IsListIter I l i ∧ h.IsList l vs.toArray) := Walks.list (A := A.in1) hh I l hlI vs.toArray
  intro k
  induction k with
  | zero =>
    intro j s b t c hk hj hit hl hS hR
    have hin : j = ns.length := by omega
    subst hin
    rw [List.drop_length] at hR
    refine codeAny_builtin F.entry_min_loop ?_
    rw [Around.under_plainId F.plain_min_loop _]
    show wpAny _ A.in1 (seqItems? (.ref S) >>= _) _ _ s
    refine wpAny_bind (wpAny_seqItems hS rfl ?_)
    show wpAny _ A.in1 (tryCatch (pyNext (.ref I)) _ >>= _) _ _ s
    refine wpAny_bind (wpAny_tryCatch (W.done s _ _ (hlen ▸ ⟨hit, hl⟩) fun h' tk hk' => ?_))
    have hS' := hk' S _ (by simpa using hSI) hS
    show wpAny _ A.in1 (updateSeq S (fun _ => #[]) >>= _) _ _ _
    refine wpAny_bind ?_
    refine wpAny_updateSeq hS' rfl (wpAny_bind (wpAny_letGo (wpAny_pure ?_)))
    exact hR t _ tk fun x o h1 h2 e => (Heap.get?_update_other _ _ (Ne.symm h1)).trans (hk' x o (by simpa using h2) e)
  | succ k ih =>
    intro j s b t c hk hj hit hl hS hR
    have hlt : j < ns.length := by omega
    refine codeAny_builtin F.entry_min_loop ?_
    rw [Around.under_plainId F.plain_min_loop _]
    show wpAny _ A.in1 (seqItems? (.ref S) >>= _) _ _ s
    refine wpAny_bind (wpAny_seqItems hS rfl ?_)
    show wpAny _ A.in1 (tryCatch (pyNext (.ref I)) _ >>= _) _ _ s
    refine wpAny_bind (wpAny_tryCatch (W.item j s _ _ (by omega) ⟨hit, hl⟩ fun v h' tk hP hst' hk' => ?_))
    obtain ⟨u, rfl⟩ := IntsAre.int_at hI j v (by simpa using hP)
    have hS' := hk' S _ (by simpa using hSI) hS
    have hd : ns.drop j = ns.getD j 0 :: ns.drop (j + 1) := by
      rw [List.drop_eq_getElem_cons hlt, List.getD_eq_getElem?_getD, List.getElem?_eq_getElem hlt]; rfl
    rw [hd, List.foldl_cons] at hR
    generalize hx : ns.getD j 0 = x at *
    show wpAny _ A.in1 (tryCatch (holding [.int x u, .int x u] (richCompare .Lt (.int x u) (.int b t) >>= _)) _ >>= _) _ _ _
    refine wpAny_bind (wpAny_tryCatch (wpAny_holding (wpAny_bind (cmp_Lt ?_))))
    refine wpAny_bind (wpAny_holding (wpAny_truthy_bool ?_))
    refine wpAny_bind (wpAny_letGo (wpAny_pure ?_))
    by_cases hb : x < b
    · rw [decide_eq_true hb]
      simp only [if_true]
      refine wpAny_bind ?_
      refine wpAny_updateSeq hS' rfl (wpAny_bind (wpAny_letGo ?_))
      rw [hname]
      have hst2 := W.frame _ h' _ hst' (fun y hy o e => (Heap.get?_update_other h' (Obj.mapSeq fun _ => #[.int x u, .int x u]) (show S ≠ y from fun q => by
        subst q
        rcases List.mem_cons.mp hy with q | q
        · exact hSI q
        · exact hSl (List.mem_singleton.mp q))).trans e)
      refine wpAny_pure ⟨plainId_quiet F.plain_min_loop _, ih (j + 1) _ x u _ (by omega) hlt hst2.1 hst2.2 (Heap.get?_update_self _ hS' rfl) fun t' h'' tk'' hk'' => ?_⟩
      unfold minStep at hR
      rw [if_pos hb] at hR
      exact hR t' h'' tk'' fun y o h1 h2 e => hk'' y o h1 h2 ((Heap.get?_update_other _ _ (Ne.symm h1)).trans (hk' y o (by simpa using h2) e))
    · rw [decide_eq_false hb]
      simp only [Bool.false_eq_true, if_false]
      refine wpAny_bind (wpAny_letGo ?_)
      rw [hname]
      refine wpAny_pure ⟨plainId_quiet F.plain_min_loop _, ih (j + 1) _ b t c (by omega) hlt hst'.1 hst'.2 hS' fun t' h'' tk'' hk'' => ?_⟩
      unfold minStep at hR
      rw [if_neg hb] at hR
      exact hR t' h'' tk'' fun y o h1 h2 e => hk'' y o h1 h2 (hk' y o (by simpa using h2) e)

def minOf : List Int → Option Int
  | [] => none
  | x :: r => some (r.foldl minStep x)

theorem min_first (hh : A.handled = none) {l I S : Addr} (hlI : l ≠ I) (hSI : S ≠ I) (hSl : S ≠ l) {vs : List Value} {ns : List Int} (hI : IntsAre vs ns) {kw : List (Str × Value)} {s : Shared} {c : Nat} (hit : s.heap.IsListIter I l 0) (hl : s.heap.IsList l vs.toArray)
    (hS : s.heap.get? S = some { cls := .type "list", dict := none, data := .seq #[] c, slots := #[] })
    (hR : ∀ m t' h' tk, minOf ns = some m → (∀ x o, x ≠ S → x ≠ I → s.heap.get? x = some o → h'.get? x = some o) → R (.ok (.ret (.int m t'))) { s with heap := h', toks := tk })
    (hE : ∀ h' tk, ns = [] → (∀ x o, x ≠ S → x ≠ I → s.heap.get? x = some o → h'.get? x = some o) → ∃ n d r, kw = (n, d) :: r ∧ R (.ok (.ret d)) { s with heap := h', toks := tk }) :
      codeAny (model prog w) A (.builtin "min.loop" ⟨[.ref I, .none, .ref S], kw⟩) R s := by
  have hname : (toString "min" ++ toString ".loop" : String) = "min.loop" := by decide
  have W : Walks prog w A.in1 I [I, l] [I] vs.toArray.size (fun i v => vs.toArray[i]? = some v) (fun i h => h.IsListIter I l i ∧ h.IsList l vs.toArray) := Walks.list (A := A.in1) hh I l hlI vs.toArray
  refine codeAny_builtin F.entry_min_loop ?_
  rw [Around.under_plainId F.plain_min_loop _]
  show wpAny _ A.in1 (seqItems? (.ref S) >>= _) _ _ s
  refine wpAny_bind (wpAny_seqItems hS rfl ?_)
  show wpAny _ A.in1 (tryCatch (pyNext (.ref I)) _ >>= _) _ _ s
  cases hI with
  | nil =>
    refine wpAny_bind (wpAny_tryCatch (W.done s _ _ ⟨hit, hl⟩ fun h' tk hk' => ?_))
    obtain ⟨n, d, r, rfl, hr⟩ := hE h' tk rfl fun x o _ h2 e => hk' x o (by simpa using h2) e
    refine wpAny_bind (wpAny_rule ?_)
    exact wpAny_pure hr
  | cons x u hr =>
    rename_i vs ns
    refine wpAny_bind (wpAny_tryCatch (W.item 0 s _ _ (by simp) ⟨hit, hl⟩ fun v h' tk hP hst' hk' => ?_))
    have hv : v = .int x u := by simpa using hP.symm
    subst hv
    have hS' := hk' S _ (by simpa using hSI) hS
    show wpAny _ A.in1 (updateSeq S (fun _ => #[.int x u, .int x u]) >>= _) _ _ _
    refine wpAny_bind ?_
    refine wpAny_updateSeq hS' rfl ?_
    rw [hname]
    have hst2 := W.frame _ h' _ hst' (fun y hy o e => (Heap.get?_update_other h' (Obj.mapSeq fun _ => #[.int x u, .int x u]) (show S ≠ y from fun q => by
      subst q
      rcases List.mem_cons.mp hy with q | q
      · exact hSI q
      · exact hSl (List.mem_singleton.mp q))).trans e)
    refine wpAny_pure ⟨plainId_quiet F.plain_min_loop _, min_loop hh hlI hSI hSl (.cons x u hr) kw _ 1 _ x u _ rfl (by simp) hst2.1 hst2.2 (Heap.get?_update_self _ hS' rfl) fun t' h'' tk'' hk'' => ?_⟩
    exact hR _ t' h'' tk'' rfl fun y o h1 h2 e => hk'' y o h1 h2 ((Heap.get?_update_other _ _ (Ne.symm h1)).trans (hk' y o (by simpa using h2) e))

theorem args_min_d (x y : Value) : argsOk "min" ⟨[x], [(Str.ofString "default", y)]⟩ := by unfold argsOk; kernel_rfl

theorem call_min_d {l : Addr} {vs : List Value} {ns : List Int} {y : Value} {Q : Value → Shared → Prop} (hh : A.handled = none) (hl : s.heap.IsList l vs.toArray) (hI : IntsAre vs ns)
    (hQ : ∀ v h' tk, (match minOf ns with | none => v = y | some m => ∃ t, v = .int m t) → (∀ x o, s.heap.get? x = some o → h'.get? x = some o) → Q v { s with heap := h', toks := tk }) :
    wpAny (model prog w) A (call (.builtin "min") [.ref l] [(Str.ofString "default", y)]) Q E s := by
  have hname : (toString "min" ++ toString ".loop" : String) = "min.loop" := by decide
  obtain ⟨ol, hol, _⟩ := id hl
  have hll : l < s.heap.objs.size := Heap.lt_size hol
  refine kmk_tree PySem.F.kind_min PySem.F.plain_min PySem.F.entry_min (args_min_d _ _) ?_
  show wpAny _ A.in1 (Builtin.Builtins.bindParams "min" ["key", "default"] 0 ⟨[], [(Str.ofString "default", y)]⟩ >>= _) _ _ s
  refine wpAny_bind (wpAny_of_eq (show Builtin.Builtins.bindParams "min" ["key", "default"] 0 ⟨[], [(Str.ofString "default", y)]⟩ = pure [none, some y] from rfl) ?_)
  refine wpAny_bind (wpAny_pure ?_)
  refine wpAny_bind (wpAny_pyIter_list hl ?_)
  refine wpAny_bind (wpAny_newList ?_ (Nat.zero_le _))
  rw [hname]
  have hS : (s.heap.push { cls := .type "list_iterator", data := .fields #[.ref l, .int 0 0] }).objs.size = s.heap.objs.size + 1 := size_push' ..
  refine wpAny_pure ⟨plainId_quiet PySem.F.plain_min_loop _, ?_⟩
  have keep : ∀ (h' : Heap), (∀ x o, x ≠ (s.heap.push { cls := .type "list_iterator", data := .fields #[.ref l, .int 0 0] }).objs.size → x ≠ s.heap.objs.size → ((s.heap.push { cls := .type "list_iterator", data := .fields #[.ref l, .int 0 0] }).push (seqObj "list" #[] 0)).get? x = some o → h'.get? x = some o) →
      ∀ x o, s.heap.get? x = some o → h'.get? x = some o := fun h' hk x o e => hk x o (by rw [hS]; exact Nat.ne_of_lt (Nat.lt_succ_of_lt (Heap.lt_size e))) (Nat.ne_of_lt (Heap.lt_size e)) (Heap.get?_push_of_some _ (Heap.get?_push_of_some _ e))
  have hSI : (s.heap.push { cls := .type "list_iterator", data := .fields #[.ref l, .int 0 0] }).objs.size ≠ s.heap.objs.size := by rw [hS]; exact Nat.ne_of_gt (Nat.lt_succ_self _)
  have hSl : (s.heap.push { cls := .type "list_iterator", data := .fields #[.ref l, .int 0 0] }).objs.size ≠ l := by rw [hS]; exact Nat.ne_of_gt (Nat.lt_succ_of_lt hll)
  refine min_first hh (Nat.ne_of_lt hll) hSI hSl hI
    ⟨_, Heap.get?_push_of_some _ (Heap.get?_push_size _ rfl), rfl, rfl⟩ ((hl.push _).push _) (Heap.get?_push_size _ rfl) (fun m t' h' tk hm hk => ?_) (fun h' tk hn hk => ⟨_, y, _, rfl, ?_⟩)
  · exact hQ _ h' tk (by rw [hm]; exact ⟨t', rfl⟩) (keep h' hk)
  · subst hn
    exact hQ y h' tk rfl (keep h' hk)

theorem call_min_1 {l : Addr} {vs : List Value} {ns : List Int} {m : Int} {Q : Value → Shared → Prop} (hh : A.handled = none) (hl : s.heap.IsList l vs.toArray) (hI : IntsAre vs ns) (hm : minOf ns = some m)
    (hQ : ∀ t h' tk, (∀ x o, s.heap.get? x = some o → h'.get? x = some o) → Q (.int m t) { s with heap := h', toks := tk }) :
    wpAny (model prog w) A (call (.builtin "min") [.ref l]) Q E s := by
  have hname : (toString "min" ++ toString ".loop" : String) = "min.loop" := by decide
  obtain ⟨ol, hol, _⟩ := id hl
  have hll : l < s.heap.objs.size := Heap.lt_size hol
  refine call_function_tree F.kind_min F.plain_min F.entry_min (F.args_min1 _) ?_
  show wpAny _ A.in1 (Builtin.Builtins.bindParams "min" ["key", "default"] 0 ⟨[], []⟩ >>= _) _ _ s
  refine wpAny_bind (wpAny_of_eq (show Builtin.Builtins.bindParams "min" ["key", "default"] 0 ⟨[], []⟩ = pure [none, none] from rfl) ?_)
  refine wpAny_bind (wpAny_pure ?_)
  refine wpAny_bind (wpAny_pyIter_list hl ?_)
  refine wpAny_bind (wpAny_newList ?_ (Nat.zero_le _))
  rw [hname]
  have hS : (s.heap.push { cls := .type "list_iterator", data := .fields #[.ref l, .int 0 0] }).objs.size = s.heap.objs.size + 1 := size_push' ..
  refine wpAny_pure ⟨plainId_quiet PySem.F.plain_min_loop _, ?_⟩
  have keep : ∀ (h' : Heap), (∀ x o, x ≠ (s.heap.push { cls := .type "list_iterator", data := .fields #[.ref l, .int 0 0] }).objs.size → x ≠ s.heap.objs.size → ((s.heap.push { cls := .type "list_iterator", data := .fields #[.ref l, .int 0 0] }).push (seqObj "list" #[] 0)).get? x = some o → h'.get? x = some o) →
      ∀ x o, s.heap.get? x = some o → h'.get? x = some o := fun h' hk x o e => hk x o (by rw [hS]; exact Nat.ne_of_lt (Nat.lt_succ_of_lt (Heap.lt_size e))) (Nat.ne_of_lt (Heap.lt_size e)) (Heap.get?_push_of_some _ (Heap.get?_push_of_some _ e))
  have hSI : (s.heap.push { cls := .type "list_iterator", data := .fields #[.ref l, .int 0 0] }).objs.size ≠ s.heap.objs.size := by rw [hS]; exact Nat.ne_of_gt (Nat.lt_succ_self _)
  have hSl : (s.heap.push { cls := .type "list_iterator", data := .fields #[.ref l, .int 0 0] }).objs.size ≠ l := by rw [hS]; exact Nat.ne_of_gt (Nat.lt_succ_of_lt hll)
  refine min_first hh (Nat.ne_of_lt hll) hSI hSl hI
    ⟨_, Heap.get?_push_of_some _ (Heap.get?_push_size _ rfl), rfl, rfl⟩ ((hl.push _).push _) (Heap.get?_push_size _ rfl) (fun m' t' h' tk hm' hk => ?_) (fun h' tk hn hk => ?_)
  · rw [hm] at hm'
    cases hm'
    exact hQ t' h' tk (keep h' hk)
  · subst hn
    cases hm
end
end Mine

open PySem PyProof.Rows
set_option Elab.async false
namespace Mine

/-- plain data; `obj a` is a reference to a mutable object of the store -/
inductive D where
  | none
  | bool (b : Bool)
  | int (i : Int)
  | str (x : Str)
  | tuple (xs : List D)
  | list (xs : List D)
  | obj (a : Addr)

/-- mutable objects -/
inductive MObj where
  | mlist (ds : List D)
  | inst (C dx : Addr) (fs : List (Str × D))
  | mdict (kvs : List (Int × D))

abbrev Store := Addr → Option MObj
def dom (σ : Store) (a : Addr) : Prop := σ a ≠ Option.none ∨ ∃ x C fs, σ x = some (.inst C a fs)

mutual
def Rep (N : Addr → Prop) (h : Heap) : D → Value → Prop
  | .none, v => v = .none
  | .bool b, v => v = .bool b
  | .int i, v => ∃ t, v = .int i t
  | .str x, v => ∃ t, v = .str x t
  | .tuple ds, v => ∃ a vs, v = .ref a ∧ N a ∧ h.IsTuple a vs ∧ RepL N h ds vs.toList
  | .list ds, v => ∃ a vs, v = .ref a ∧ N a ∧ h.IsList a vs ∧ RepL N h ds vs.toList
  | .obj a, v => v = .ref a
def RepL (N : Addr → Prop) (h : Heap) : List D → List Value → Prop
  | [], vs => vs = []
  | d :: ds, vs => ∃ v r, vs = v :: r ∧ Rep N h d v ∧ RepL N h ds r
end

def Stay (N N' : Addr → Prop) (h h' : Heap) : Prop :=
  ∀ a o items n, N a → h.get? a = some o → o.data = .seq items n → h'.get? a = some o ∧ N' a

mutual
theorem Rep.stay {N N' : Addr → Prop} {h h' : Heap} (k : Stay N N' h h') : ∀ (d : D) (v : Value), Rep N h d v → Rep N' h' d v
  | .none, v, x => by simp only [Rep] at x ⊢; exact x
  | .bool b, v, x => by simp only [Rep] at x ⊢; exact x
  | .int i, v, x => by simp only [Rep] at x ⊢; exact x
  | .str i, v, x => by simp only [Rep] at x ⊢; exact x
  | .obj i, v, x => by simp only [Rep] at x ⊢; exact x
  | .tuple ds, v, x => by
    simp only [Rep] at x ⊢
    obtain ⟨a, vs, e, hN, ⟨o, ho, hc, n, hd⟩, hr⟩ := x
    obtain ⟨h1, h2⟩ := k a o vs n hN ho hd
    exact ⟨a, vs, e, h2, ⟨o, h1, hc, n, hd⟩, RepL.stay k ds _ hr⟩
  | .list ds, v, x => by
    simp only [Rep] at x ⊢
    obtain ⟨a, vs, e, hN, ⟨o, ho, hc, n, hd⟩, hr⟩ := x
    obtain ⟨h1, h2⟩ := k a o vs n hN ho hd
    exact ⟨a, vs, e, h2, ⟨o, h1, hc, n, hd⟩, RepL.stay k ds _ hr⟩
theorem RepL.stay {N N' : Addr → Prop} {h h' : Heap} (k : Stay N N' h h') : ∀ (ds : List D) (vs : List Value), RepL N h ds vs → RepL N' h' ds vs
  | [], vs, x => by simp only [RepL] at x ⊢; exact x
  | d :: ds, vs, x => by
    simp only [RepL] at x ⊢
    obtain ⟨v, r, e, h1, h2⟩ := x
    exact ⟨v, r, e, Rep.stay k d v h1, RepL.stay k ds r h2⟩
end

theorem RepL.length {N : Addr → Prop} {h : Heap} : ∀ {ds : List D} {vs : List Value}, RepL N h ds vs → vs.length = ds.length
  | [], vs, x => by simp only [RepL] at x; subst x; rfl
  | d :: ds, vs, x => by
    simp only [RepL] at x
    obtain ⟨v, r, rfl, _, h2⟩ := x
    simp [RepL.length h2]
theorem RepL.get {N : Addr → Prop} {h : Heap} : ∀ {ds : List D} {vs : List Value}, RepL N h ds vs → ∀ {i : Nat} {d : D}, ds[i]? = some d → ∃ v, vs[i]? = some v ∧ Rep N h d v
  | [], vs, x, i, d, e => by simp at e
  | d :: ds, vs, x, i, d', e => by
    simp only [RepL] at x
    obtain ⟨v, r, rfl, h1, h2⟩ := x
    cases i with
    | zero => simp at e; subst e; exact ⟨v, rfl, h1⟩
    | succ i => simp at e; obtain ⟨u, hu, hr⟩ := RepL.get h2 e; exact ⟨u, by simpa using hu, hr⟩
theorem RepL.append {N : Addr → Prop} {h : Heap} : ∀ {ds es : List D} {vs us : List Value}, RepL N h ds vs → RepL N h es us → RepL N h (ds ++ es) (vs ++ us)
  | [], es, vs, us, x, y => by simp only [RepL] at x; subst x; simpa using y
  | d :: ds, es, vs, us, x, y => by
    simp only [RepL] at x
    obtain ⟨v, r, rfl, h1, h2⟩ := x
    exact ⟨v, r ++ us, rfl, h1, RepL.append h2 y⟩
theorem RepL.nil {N : Addr → Prop} {h : Heap} : RepL N h [] [] := by simp [RepL]
theorem RepL.cons {N : Addr → Prop} {h : Heap} {d ds v vs} (x : Rep N h d v) (y : RepL N h ds vs) : RepL N h (d :: ds) (v :: vs) := by simp only [RepL]; exact ⟨v, vs, rfl, x, y⟩
theorem RepL.one {N : Addr → Prop} {h : Heap} {d v} (x : Rep N h d v) : RepL N h [d] [v] := .cons x .nil
theorem RepL.split {N : Addr → Prop} {h : Heap} : ∀ {ds es : List D} {vs : List Value}, RepL N h (ds ++ es) vs → ∃ us ws, vs = us ++ ws ∧ RepL N h ds us ∧ RepL N h es ws
  | [], es, vs, x => ⟨[], vs, rfl, .nil, by simpa using x⟩
  | d :: ds, es, vs, x => by
    simp only [List.cons_append, RepL] at x
    obtain ⟨v, r, rfl, h1, h2⟩ := x
    obtain ⟨us, ws, rfl, a, b⟩ := RepL.split h2
    exact ⟨v :: us, ws, rfl, .cons h1 a, b⟩

/-- where plain data may lie: not in the store, not in the protected set -/
def nd (σ : Store) (P : Addr → Prop) (a : Addr) : Prop := ¬ dom σ a ∧ ¬ P a

/-- what a mutable object is in the heap -/
def MRep (σ : Store) (P : Addr → Prop) (h : Heap) (a : Addr) : MObj → Prop
  | .mlist ds => ∃ vs, h.PlainList a vs ∧ RepL (nd σ P) h ds vs.toList
  | .inst C dx fs => ∃ (n : Nat) (es : List DictEntry), h.get? a = some ({ cls := .ref C, dict := some dx, data := .plain } : Obj) ∧ h.get? dx = some ({ cls := .type "dict", data := .dict es.toArray n } : Obj) ∧ es.length = fs.length ∧ es.length ≤ 1000 ∧
      (∀ (i : Nat) e f, es[i]? = some e → fs[i]? = some f → (∃ t, e.key = .str f.1 t) ∧ Rep (nd σ P) h f.2 e.val) ∧ (fs.map (·.1)).Nodup
  | .mdict kvs => ∃ (n : Nat) (es : List DictEntry), h.get? a = some ({ cls := .type "dict", data := .dict es.toArray n } : Obj) ∧ es.length = kvs.length ∧
      (∀ (i : Nat) e f, es[i]? = some e → kvs[i]? = some f → (∃ t, e.key = .int f.1 t) ∧ Rep (nd σ P) h f.2 e.val)

structure StoreOk (σ : Store) (P : Addr → Prop) (h : Heap) : Prop where
  rep : ∀ a mo, σ a = some mo → MRep σ P h a mo
  apart : ∀ x C dx fs, σ x = some (.inst C dx fs) → σ dx = Option.none ∧ ∀ y C' fs', σ y = some (.inst C' dx fs') → y = x
  free : ∀ a, dom σ a → ¬ P a

/-- what a run may do to the state: frame objects F and the store may change -/
structure Step (F : Addr → Prop) (σ σ' : Store) (s s' : Shared) : Prop where
  same : ∃ h' tk, s' = { s with heap := h', toks := tk }
  keep : ∀ a o, s.heap.get? a = some o → ¬ dom σ a → ¬ F a → s'.heap.get? a = some o
  alive : ∀ a o, s.heap.get? a = some o → ∃ o', s'.heap.get? a = some o'
  new : ∀ a, dom σ' a → dom σ a ∨ s.heap.get? a = Option.none

abbrev noF : Addr → Prop := fun _ => False

theorem Step.refl (F σ s) : Step F σ σ s s := ⟨⟨s.heap, s.toks, rfl⟩, fun _ _ e _ _ => e, fun _ o e => ⟨o, e⟩, fun _ x => .inl x⟩
theorem Step.trans {F σ σ₁ σ₂ s s₁ s₂} (x : Step F σ σ₁ s s₁) (y : Step F σ₁ σ₂ s₁ s₂) : Step F σ σ₂ s s₂ := by
  refine ⟨?_, fun a o e hd hf => y.keep a o (x.keep a o e hd hf) (fun h1 => (x.new a h1).elim hd (fun hn => by rw [hn] at e; cases e)) hf, fun a o e => ?_, fun a ha => ?_⟩
  · obtain ⟨h₁, t₁, rfl⟩ := x.same
    obtain ⟨h₂, t₂, rfl⟩ := y.same
    exact ⟨h₂, t₂, rfl⟩
  · obtain ⟨o', e'⟩ := x.alive a o e
    exact y.alive a o' e'
  · rcases y.new a ha with h | h
    · exact x.new a h
    · right
      cases e : s.heap.get? a with
      | none => rfl
      | some o => obtain ⟨o', e'⟩ := x.alive a o e; rw [h] at e'; cases e'
theorem Step.weak {F F' σ σ' s s'} (x : Step F σ σ' s s') (h : ∀ a, F a → F' a) : Step F' σ σ' s s' := ⟨x.same, fun a o e hd hf => x.keep a o e hd (fun q => hf (h a q)), x.alive, x.new⟩
theorem Step.of_keeps {F σ s s'} (x : Keeps s s') : Step F σ σ s s' := by
  obtain ⟨h', tk, rfl, hk⟩ := x
  exact ⟨⟨h', tk, rfl⟩, fun a o e _ _ => hk a o e, fun a o e => ⟨o, hk a o e⟩, fun _ h => .inl h⟩
theorem Step.stay {σ σ' s s'} (P : Addr → Prop) (x : Step noF σ σ' s s') : Stay (nd σ P) (nd σ' P) s.heap s'.heap := fun a o items n hN ho _ =>
  ⟨x.keep a o ho hN.1 (fun h => h), fun h => (x.new a h).elim hN.1 (fun e => by rw [e] at ho; cases ho), hN.2⟩

structure Cx where
  prog : Program
  w : World
  b : Heap
  mg : Str → Option Value
  mb : Str → Option Value
  hg : b.Ns mainGlobals mg
  hb : b.Ns builtinsNs mb
  hl : b.NoLimit

def Cx.glob (c : Cx) (x : Str) : Option Value := (c.mg x).or (c.mb x)
abbrev Cx.M (c : Cx) : Model := model c.prog c.w

def Room (n : Nat) (A : Around) : Prop := A.handled = Option.none ∧ A.depth + n ≤ 900 ∧ A.units + 10 * n + 500 ≤ 9000

theorem Room.deeper {n : Nat} {A : Around} (h : Room (n + 1) A) (env : Env) : Room n (A.deeper env) := by
  obtain ⟨a, b, d⟩ := h
  refine ⟨a, ?_, ?_⟩
  · show A.depth + 1 + n ≤ 900; omega
  · show A.units + 3 + 10 * n + 500 ≤ 9000; omega
theorem Room.le {n m : Nat} {A : Around} (h : Room n A) (hm : m ≤ n) : Room m A := ⟨h.1, by have := h.2.1; omega, by have := h.2.2; omega⟩
theorem Room.in1 {n : Nat} {A : Around} (h : Room (n + 1) A) : Room n A.in1 := by
  obtain ⟨a, b, d⟩ := h
  exact ⟨a, by show A.depth + n ≤ 900; omega, by show A.units + 1 + 10 * n + 500 ≤ 9000; omega⟩

abbrev PEnv := List (Option D)
def PEnv.at : PEnv → Nat → Option D
  | [], _ => Option.none
  | d :: _, 0 => d
  | _ :: r, i + 1 => PEnv.at r i
def PEnv.put : PEnv → Nat → D → PEnv
  | [], _, _ => []
  | _ :: r, 0, d => some d :: r
  | e :: r, i + 1, d => e :: PEnv.put r i d
theorem PEnv.at_put : ∀ (ρ : PEnv) (i j : Nat) (d e : D), (ρ.put i d).at j = some e → (j = i ∧ e = d) ∨ (j ≠ i ∧ ρ.at j = some e)
  | [], i, j, d, e, h => by simp [PEnv.put, PEnv.at] at h
  | x :: r, 0, 0, d, e, h => by simp [PEnv.put, PEnv.at] at h; exact .inl ⟨rfl, h.symm⟩
  | x :: r, 0, j + 1, d, e, h => by simp [PEnv.put, PEnv.at] at h; exact .inr ⟨by omega, by simpa [PEnv.at] using h⟩
  | x :: r, i + 1, 0, d, e, h => by simp [PEnv.put, PEnv.at] at h; exact .inr ⟨by omega, by simpa [PEnv.at] using h⟩
  | x :: r, i + 1, j + 1, d, e, h => by
    simp [PEnv.put, PEnv.at] at h
    rcases PEnv.at_put r i j d e h with ⟨a, b⟩ | ⟨a, b⟩
    · exact .inl ⟨by omega, b⟩
    · exact .inr ⟨by omega, by simpa [PEnv.at] using b⟩

def VarIs (env : Env) (h : Heap) (x : Str) (v : Value) : Prop :=
  (env.kindOf x = some .local ∧ ∃ m, h.Ns env.locals m ∧ m x = some v) ∨ (env.kindOf x = some .cell ∧ ∃ ca, env.cells.lookup x = some ca ∧ h.IsCell ca (some v))

def FrA (env : Env) (a : Addr) : Prop := a = env.locals ∨ ∃ x, env.cells.lookup x = some a

/-- the shape of a frame's names -/
structure EnvOk (nm : Nat → Str) (vs : List Nat) (env : Env) : Prop where
  kind : env.scope.kind = .function
  globals : env.globals = mainGlobals
  builtins : env.builtins = builtinsNs
  inj : ∀ i ∈ vs, ∀ j ∈ vs, nm i = nm j → i = j
  kinds : ∀ i ∈ vs, env.kindOf (nm i) = some .local ∨ (env.kindOf (nm i) = some .cell ∧ ∃ ca, env.cells.lookup (nm i) = some ca)
  dbg : ∀ i ∈ vs, (nm i == ("__debug__" : Str)) = false
  apart : env.cells.Pairwise fun x y => x.2 ≠ y.2

structure Good (c : Cx) (nm : Nat → Str) (vs : List Nat) (env : Env) (ρ : PEnv) (σ : Store) (P : Addr → Prop) (s : Shared) : Prop where
  base : ∀ a o, c.b.get? a = some o → s.heap.get? a = some o
  ns : ∃ m, s.heap.Ns env.locals m
  cell : ∀ x ca, env.cells.lookup x = some ca → ∃ v, s.heap.IsCell ca v
  var : ∀ i d, ρ.at i = some d → i ∈ vs ∧ ∃ v, VarIs env s.heap (nm i) v ∧ Rep (nd σ P) s.heap d v
  st : StoreOk σ P s.heap
  own : ∀ a, dom σ a → c.b.get? a = Option.none ∧ ¬ FrA env a
  fresh : ∀ a, FrA env a → c.b.get? a = Option.none
  prot : ∀ a, P a → ∃ o, s.heap.get? a = some o

theorem VarIs.keep {env : Env} {h h' : Heap} {x : Str} {v : Value} (y : VarIs env h x v) (k : ∀ a o, FrA env a → h.get? a = some o → h'.get? a = some o) : VarIs env h' x v := by
  rcases y with ⟨a, m, hn, hm⟩ | ⟨a, ca, hc, o, ho, hd⟩
  · exact .inl ⟨a, m, hn.at' (fun o e => k _ o (.inl rfl) e), hm⟩
  · exact .inr ⟨a, ca, hc, o, k ca o (.inr ⟨x, hc⟩) ho, hd⟩

theorem Good.fr_alive {c nm vs env ρ σ P s} (g : Good c nm vs env ρ σ P s) {a : Addr} (h : FrA env a) : ∃ o, s.heap.get? a = some o ∧ ∀ items n, o.data ≠ .seq items n := by
  rcases h with rfl | ⟨x, hx⟩
  · obtain ⟨m, o, es, ep, ho, hd, _⟩ := g.ns
    exact ⟨o, ho, fun items n e => by rw [hd] at e; cases e⟩
  · obtain ⟨v, o, ho, hd⟩ := g.cell x a hx
    exact ⟨o, ho, fun items n e => by rw [hd] at e; cases e⟩

theorem Good.next {c nm vs env ρ σ σ' P s s'} (g : Good c nm vs env ρ σ P s) (st : Step noF σ σ' s s') (ok : StoreOk σ' P s'.heap) : Good c nm vs env ρ σ' P s' := by
  have kf : ∀ a o, FrA env a → s.heap.get? a = some o → s'.heap.get? a = some o := fun a o ha e => st.keep a o e (fun hd => (g.own a hd).2 ha) (fun h => h)
  refine ⟨fun a o e => st.keep a o (g.base a o e) (fun hd => by rw [(g.own a hd).1] at e; cases e) (fun h => h), ?_, fun x ca hx => ?_, fun i d e => ?_, ok, fun a ha => ?_, g.fresh, fun a ha => ?_⟩
  · obtain ⟨m, hn⟩ := g.ns
    exact ⟨m, hn.at' fun o e => kf _ o (.inl rfl) e⟩
  · obtain ⟨v, o, ho, hd⟩ := g.cell x ca hx
    exact ⟨v, o, kf ca o (.inr ⟨x, hx⟩) ho, hd⟩
  · obtain ⟨hi, v, hv, hr⟩ := g.var i d e
    exact ⟨hi, v, hv.keep kf, Rep.stay (st.stay P) d v hr⟩
  · rcases st.new a ha with h | h
    · exact g.own a h
    · refine ⟨?_, fun hf => ?_⟩
      · cases e : c.b.get? a with
        | none => rfl
        | some o => rw [g.base a o e] at h; cases h
      · obtain ⟨o, ho, _⟩ := g.fr_alive hf
        rw [ho] at h; cases h
  · obtain ⟨o, ho⟩ := g.prot a ha
    exact st.alive a o ho

end Mine

open PySem PyProof.Rows
set_option Elab.async false
namespace Mine

/-- built-in functions and types that are called by their names -/
inductive BI where
  | len | min2 | list | tuple | max1 | min1
def BI.val : BI → Value
  | .len => .builtin "len"
  | .min2 => .builtin "min"
  | .list => .type "list"
  | .tuple => .type "tuple"
  | .max1 => .builtin "max"
  | .min1 => .builtin "min"
inductive TY where
  | int | bool | list | tuple
def TY.name : TY → String
  | .int => "int"
  | .bool => "bool"
  | .list => "list"
  | .tuple => "tuple"

mutual
inductive PE where
  | var (i : Nat) (p : Pos)
  | cint (i : Int) (p : Pos)
  | cnone (p : Pos)
  | cbool (b : Bool) (p : Pos)
  | cstr (x : Str) (p : Pos)
  | bin (op : Operator) (l r : PE) (p : Pos)
  | neg (e : PE) (p : Pos)
  | not (e : PE) (p : Pos)
  | bop (op : BoolOp) (es : List PE) (p : Pos)
  | cmp (op : CmpOp) (l r : PE) (p : Pos)
  | cmp2 (o₁ o₂ : CmpOp) (a b c : PE) (p : Pos)
  | call (g : Nat) (gp : Pos) (args : List PE) (p : Pos)
  | bi (b : BI) (m : Bool) (g : Nat) (gp : Pos) (args : List PE) (p : Pos)
  | isi (e : PE) (ty : TY) (g : Nat) (gp : Pos) (gt : Nat) (tp p : Pos)
  | sub (o i : PE) (p : Pos)
  | slc (m : Bool) (o : PE) (lo hi : Option PE) (sp p : Pos)
  | list (m : Bool) (es : List PE) (p : Pos)
  | tup (es : List PE) (k : Nat) (p : Pos)
  | mmd (mx : Bool) (g : Nat) (gp : Pos) (e : PE) (cp kp p : Pos)
  | sset (g : Nat) (gp : Pos) (g' : Nat) (gp' : Pos) (e : PE) (p' p : Pos)
  | app (o : PE) (ap : Pos) (e : PE) (p : Pos)
  | comp (m : Bool) (elt : PE) (x : Nat) (xp : Pos) (it : IT) (ifs : List PE) (sc : Scope) (fr : List Nat) (p : Pos)
inductive IT where
  | of (e : PE)
  | range (g : Nat) (gp : Pos) (e : PE) (p : Pos)
end

inductive PS where
  | assign (x : Nat) (xp : Pos) (e : PE) (p : Pos)
  | expr (e : PE) (p : Pos)
  | ite (t : PE) (b o : List PS) (p : Pos)
  | loop (x : Nat) (xp : Pos) (it : IT) (b : List PS) (p : Pos)
  | while (t : PE) (b : List PS) (p : Pos)
  | ret (e : PE) (p : Pos)

/-- names: of variables, of globals -/
structure Nms where
  nm : Nat → Str
  gn : Nat → Str

mutual
def emb (N : Nms) : PE → Expr
  | .var i p => .Name (N.nm i) p
  | .cint i p => .Constant (.int i) 0 p
  | .cnone p => .Constant .none 0 p
  | .cbool b p => .Constant (.bool b) 0 p
  | .cstr x p => .Constant (.str x) 0 p
  | .bin op l r p => .BinOp (emb N l) op (emb N r) p
  | .neg e p => .UnaryOp .USub (emb N e) p
  | .not e p => .UnaryOp .Not (emb N e) p
  | .bop op es p => .BoolOp op (embL N es) p
  | .cmp op l r p => .Compare (emb N l) [op] [emb N r] p
  | .cmp2 o₁ o₂ a b c p => .Compare (emb N a) [o₁, o₂] [emb N b, emb N c] p
  | .call g gp args p => .Call (.Name (N.gn g) gp) (embL N args) [] p
  | .bi _ _ g gp args p => .Call (.Name (N.gn g) gp) (embL N args) [] p
  | .isi e _ g gp gt tp p => .Call (.Name (N.gn g) gp) [emb N e, .Name (N.gn gt) tp] [] p
  | .sub o i p => .Subscript (emb N o) (emb N i) p
  | .slc _ o lo hi sp p => .Subscript (emb N o) (.Slice (embO N lo) (embO N hi) Option.none sp) p
  | .list _ es p => .List (embL N es) p
  | .tup es k p => .Tuple (embL N es) k p
  | .mmd _ g gp e cp kp p => .Call (.Name (N.gn g) gp) [emb N e] [⟨some (Str.ofString "default"), .Constant .none 0 cp, kp⟩] p
  | .sset g gp g' gp' e p' p => .Call (.Name (N.gn g) gp) [.Call (.Name (N.gn g') gp') [emb N e] [] p'] [] p
  | .app o ap e p => .Call (.Attribute (emb N o) (Str.ofString "append") ap) [emb N e] [] p
  | .comp _ elt x xp it ifs sc _ p => .ListComp (emb N elt) [⟨.Name (N.nm x) xp, embI N it, embL N ifs, 0⟩] sc p
def embL (N : Nms) : List PE → List Expr
  | [] => []
  | e :: r => emb N e :: embL N r
def embO (N : Nms) : Option PE → Option Expr
  | Option.none => Option.none
  | some e => some (emb N e)
def embI (N : Nms) : IT → Expr
  | .of e => emb N e
  | .range g gp e p => .Call (.Name (N.gn g) gp) [emb N e] [] p
end
mutual
def embS (N : Nms) : PS → Stmt
  | .assign x xp e p => .Assign [.Name (N.nm x) xp] (emb N e) p
  | .expr e p => .Expr (emb N e) p
  | .ite t b o p => .If (emb N t) (embSs N b) (embSs N o) p
  | .loop x xp it b p => .For (.Name (N.nm x) xp) (embI N it) (embSs N b) [] p
  | .while t b p => .While (emb N t) (embSs N b) [] p
  | .ret e p => .Return (some (emb N e)) p
def embSs (N : Nms) : List PS → List Stmt
  | [] => []
  | s :: r => embS N s :: embSs N r
end

/-! ### what the constructs do to plain data -/

def asL (σ : Store) : D → Option (List D)
  | .list xs => some xs
  | .tuple xs => some xs
  | .obj a => match σ a with
    | some (.mlist xs) => some xs
    | _ => Option.none
  | _ => Option.none

def truthS (d : D) (σ : Store) (Φ : Bool → Store → Prop) : Prop := match d with
  | .bool b => Φ b σ
  | _ => False

def freshIn (σ : Store) (a : Addr) : Prop := σ a = Option.none ∧ ∀ x C fs, σ x ≠ some (.inst C a fs)
def Store.set (σ : Store) (a : Addr) (m : MObj) : Store := fun x => if x = a then some m else σ x

/-- a new list: plain, or a mutable one of the store -/
def mkS (m : Bool) (ds : List D) (σ : Store) (Φ : D → Store → Prop) : Prop :=
  if m then ∀ a, freshIn σ a → Φ (.obj a) (σ.set a (.mlist ds)) else Φ (.list ds) σ

def small : Nat := 1000000

def binS (op : Operator) (a b : D) (σ : Store) (Φ : D → Store → Prop) : Prop := match op, a, b with
  | .Add, .int x, .int y => Φ (.int (x + y)) σ
  | .Sub, .int x, .int y => Φ (.int (x - y)) σ
  | .Mult, .int x, .int y => (x.natAbs < 2 ^ 64 ∨ y.natAbs < 2 ^ 64) ∧ Φ (.int (x * y)) σ
  | .Mod, .int x, .int y => 0 < y ∧ Φ (.int (x % y)) σ
  | .FloorDiv, .int x, .int y => (0 < y ∧ y < 10 ^ 50) ∧ Φ (.int (x / y)) σ
  | .Pow, .int x, .int y => (0 ≤ y ∧ (Builtin.Int.intBits x : Int) * y ≤ 2 ^ 27) ∧ Φ (.int (x ^ y.toNat)) σ
  | .Add, .list xs, .list ys => xs.length + ys.length ≤ small ∧ Φ (.list (xs ++ ys)) σ
  | _, _, _ => False

mutual
/-- equality of plain data as Python sees it, for data without store objects -/
def D.py : D → Option PyData
  | .none => some .none
  | .bool b => some (.bool b)
  | .int i => some (.int i)
  | .str x => some (.str x)
  | .tuple xs => (D.pys xs).map .tuple
  | .list xs => (D.pys xs).map .list
  | .obj _ => Option.none
def D.pys : List D → Option (List PyData)
  | [] => some []
  | d :: ds => (D.py d).bind fun x => (D.pys ds).map (x :: ·)
end

def isNone : D → Option Bool
  | .none => some true
  | .obj _ => some false
  | _ => some false

/-- what equality sees: a mutable list as its items -/
def eqP (σ : Store) : D → Option PyData
  | .obj a => match σ a with
    | some (.mlist xs) => (D.pys xs).map .list
    | _ => Option.none
  | d => D.py d

def cmpS (op : CmpOp) (a b : D) (σ : Store) (Φ : D → Store → Prop) : Prop := match op, a, b with
  | .Lt, .int x, .int y => Φ (.bool (decide (x < y))) σ
  | .LtE, .int x, .int y => Φ (.bool (decide (x ≤ y))) σ
  | .Gt, .int x, .int y => Φ (.bool (decide (x > y))) σ
  | .GtE, .int x, .int y => Φ (.bool (decide (x ≥ y))) σ
  | .Eq, .int x, .int y => Φ (.bool (decide (x = y))) σ
  | .NotEq, .int x, .int y => Φ (.bool (!decide (x = y))) σ
  | .Eq, .bool x, .bool y => Φ (.bool (x == y)) σ
  | .NotEq, .bool x, .bool y => Φ (.bool (!(x == y))) σ
  | .Is, d, .none => ∃ t, isNone d = some t ∧ Φ (.bool t) σ
  | .IsNot, d, .none => ∃ t, isNone d = some t ∧ Φ (.bool (!t)) σ
  | .Eq, a, b => ∃ x y, eqP σ a = some x ∧ eqP σ b = some y ∧ SeqAt.shaped x = true ∧ SeqAt.shaped y = true ∧ Φ (.bool (PyData.eqv x y)) σ
  | .NotEq, a, b => ∃ x y, eqP σ a = some x ∧ eqP σ b = some y ∧ SeqAt.shaped x = true ∧ SeqAt.shaped y = true ∧ Φ (.bool (!PyData.eqv x y)) σ
  | _, _, _ => False

def subS (o i : D) (σ : Store) (Φ : D → Store → Prop) : Prop := match i with
  | .int k => ∃ xs, asL σ o = some xs ∧ xs.length ≤ small ∧ ((0 ≤ k ∧ ∃ d, xs[k.toNat]? = some d ∧ Φ d σ) ∨ (k = -1 ∧ ∃ d, xs.getLast? = some d ∧ Φ d σ))
  | _ => False

def tyS : TY → D → Store → Option Bool
  | .int, .int _, _ => some true
  | .int, .bool _, _ => some true
  | .bool, .bool _, _ => some true
  | .bool, .int _, _ => some false
  | .list, .list _, _ => some true
  | .list, .tuple _, _ => some false
  | .list, .obj a, σ => match σ a with
    | some (.mlist _) => some true
    | _ => Option.none
  | .tuple, .tuple _, _ => some true
  | .tuple, .list _, _ => some false
  | _, _, _ => Option.none

def isList : D → Prop
  | .list _ => True
  | _ => False

def isTuple : D → Bool
  | .tuple _ => true
  | _ => false
def dOpt : Option Int → D
  | Option.none => .none
  | some i => .int i
/-- max or min of a list, None for an empty one -/
def mmS (mx : Bool) (d : D) (σ : Store) (Φ : D → Store → Prop) : Prop := ∃ ns : List Int, asL σ d = some (ns.map D.int) ∧ isTuple d = false ∧ Φ (dOpt (if mx then maxOf ns else minOf ns)) σ
/-- the columns of a list, once each, rising -/
def ssetS (d : D) (σ : Store) (Φ : D → Store → Prop) : Prop := ∃ ns : List Nat, asL σ d = some (ns.map fun (k : Nat) => D.int k) ∧ isTuple d = false ∧ (∀ k ∈ ns, k < 6) ∧ Φ (.list ((keysOf (bitsOf ns)).map fun (k : Nat) => D.int k)) σ
def isML (d : D) (σ : Store) : Prop := match d with
  | .obj a => ∃ xs, σ a = some (.mlist xs)
  | _ => False
def appS (d e : D) (σ : Store) (Φ : D → Store → Prop) : Prop := match d with
  | .obj a => ∃ xs, σ a = some (.mlist xs) ∧ xs.length ≤ small ∧ Φ .none (σ.set a (.mlist (xs ++ [e])))
  | _ => False
def biS (b : BI) (m : Bool) (ds : List D) (σ : Store) (Φ : D → Store → Prop) : Prop := match b, ds with
  | .len, [d] => ∃ xs, asL σ d = some xs ∧ xs.length ≤ small ∧ Φ (.int xs.length) σ
  | .min2, [.int x, .int y] => Φ (.int (if y < x then y else x)) σ
  | .list, [d] => ∃ xs, asL σ d = some xs ∧ xs.length ≤ small ∧ mkS m xs σ Φ
  | .tuple, [d] => ∃ xs, asL σ d = some xs ∧ xs.length ≤ small ∧ isList d ∧ Φ (.tuple xs) σ
  | .max1, [d] => ∃ (ns : List Int) (i : Int), asL σ d = some (ns.map D.int) ∧ isTuple d = false ∧ maxOf ns = some i ∧ Φ (.int i) σ
  | .min1, [d] => ∃ (ns : List Int) (i : Int), asL σ d = some (ns.map D.int) ∧ isTuple d = false ∧ minOf ns = some i ∧ Φ (.int i) σ
  | _, _ => False

def partI : Option D → Option (Option Int)
  | Option.none => some Option.none
  | some (.int k) => some (some k)
  | _ => Option.none
def sliceD (xs : List D) (lo hi : Option Int) : List D :=
  (xs.drop (lo.elim 0 (clipAt xs.length))).take (hi.elim xs.length (clipAt xs.length) - lo.elim 0 (clipAt xs.length))
def slcS (m : Bool) (o : D) (lo hi : Option D) (σ : Store) (Φ : D → Store → Prop) : Prop :=
  ∃ xs l h, asL σ o = some xs ∧ isTuple o = false ∧ partI lo = some l ∧ partI hi = some h ∧ xs.length ≤ small ∧ mkS m (sliceD xs l h) σ Φ

/-- results of statements -/
inductive Res where
  | next (ρ : PEnv) (σ : Store)
  | ret (d : D) (σ : Store)
  | brk (ρ : PEnv) (σ : Store)
  | cont (ρ : PEnv) (σ : Store)

/-- the iterable's list is not changed within the loop -/
def keepS (d : D) (ds : List D) (σ : Store) : Prop := match d with
  | .obj a => σ a = some (.mlist ds)
  | _ => True

def forS (step : D → PEnv → Store → (Res → Prop) → Prop) (keep : Store → Prop) : List D → PEnv → Store → (Res → Prop) → Prop
  | [], ρ, σ, Φ => Φ (.next ρ σ)
  | d :: ds, ρ, σ, Φ => step d ρ σ fun r => match r with
    | .next ρ' σ' => keep σ' ∧ forS step keep ds ρ' σ' Φ
    | .cont ρ' σ' => keep σ' ∧ forS step keep ds ρ' σ' Φ
    | .brk ρ' σ' => Φ (.next ρ' σ')
    | .ret d' σ' => Φ (.ret d' σ')

def compS (step : D → Store → (Option D → Store → Prop) → Prop) (keep : Store → Prop) : List D → Store → List D → (List D → Store → Prop) → Prop
  | [], σ, acc, Ψ => Ψ acc σ
  | d :: ds, σ, acc, Ψ => step d σ fun o σ' => keep σ' ∧ compS step keep ds σ' (acc ++ o.toList) Ψ

def onlyGo (l : List Nat) : Nat → PEnv → PEnv
  | _, [] => []
  | i, d :: r => (if l.contains i then d else Option.none) :: onlyGo l (i + 1) r
def PEnv.only (ρ : PEnv) (l : List Nat) : PEnv := onlyGo l 0 ρ

abbrev Spec := List D → Store → (D → Store → Prop) → Prop
abbrev ETr := PEnv → Store → (D → Store → Prop) → Prop
abbrev TTr := PEnv → Store → (Bool → Store → Prop) → Prop
/-- value and test of an expression -/
structure VT where
  v : ETr
  t : TTr
def VT.of (v : ETr) : VT := ⟨v, fun ρ σ Φ => v ρ σ fun d σ' => truthS d σ' Φ⟩

def bopV (op : BoolOp) : List VT → ETr
  | [], _, _, _ => False
  | [x], ρ, σ, Φ => x.v ρ σ Φ
  | x :: y :: r, ρ, σ, Φ => x.v ρ σ fun d σ' => truthS d σ' fun b σ'' => match op with
    | .And => (b = false → Φ d σ'') ∧ (b = true → bopV op (y :: r) ρ σ'' Φ)
    | .Or => (b = true → Φ d σ'') ∧ (b = false → bopV op (y :: r) ρ σ'' Φ)
def bopT (op : BoolOp) : List VT → TTr
  | [], _, σ, Φ => Φ (op == .And) σ
  | x :: r, ρ, σ, Φ => x.t ρ σ fun b σ' => match op with
    | .And => (b = false → Φ false σ') ∧ (b = true → bopT op r ρ σ' Φ)
    | .Or => (b = true → Φ true σ') ∧ (b = false → bopT op r ρ σ' Φ)
def argsV : List VT → PEnv → Store → (List D → Store → Prop) → Prop
  | [], _, σ, Φ => Φ [] σ
  | x :: r, ρ, σ, Φ => x.v ρ σ fun d σ' => argsV r ρ σ' fun ds σ'' => Φ (d :: ds) σ''
/-- tests of a comprehension -/
def ifsT : List VT → TTr
  | [], _, σ, Φ => Φ true σ
  | x :: r, ρ, σ, Φ => x.t ρ σ fun b σ' => (b = true → ifsT r ρ σ' Φ) ∧ (b = false → Φ false σ')

def rangeD (n : Int) : List D := (List.range n.toNat).map fun (i : Nat) => D.int i

mutual
def vc (S : Nat → Spec) : PE → VT
  | .var i _ => .of fun ρ σ Φ => match ρ.at i with
    | some d => Φ d σ
    | Option.none => False
  | .cint i _ => .of fun _ σ Φ => Φ (.int i) σ
  | .cnone _ => .of fun _ σ Φ => Φ .none σ
  | .cbool b _ => .of fun _ σ Φ => Φ (.bool b) σ
  | .cstr x _ => .of fun _ σ Φ => Φ (.str x) σ
  | .bin op l r _ => .of fun ρ σ Φ => (vc S l).v ρ σ fun a σ₁ => (vc S r).v ρ σ₁ fun b σ₂ => binS op a b σ₂ Φ
  | .neg e _ => .of fun ρ σ Φ => (vc S e).v ρ σ fun d σ' => match d with
    | .int i => Φ (.int (-i)) σ'
    | _ => False
  | .not e _ => ⟨fun ρ σ Φ => (vc S e).v ρ σ fun d σ' => truthS d σ' fun b σ'' => Φ (.bool (!b)) σ'', fun ρ σ Φ => (vc S e).t ρ σ fun b σ' => Φ (!b) σ'⟩
  | .bop op es _ => ⟨bopV op (vcL S es), bopT op (vcL S es)⟩
  | .cmp op l r _ => .of fun ρ σ Φ => (vc S l).v ρ σ fun a σ₁ => (vc S r).v ρ σ₁ fun b σ₂ => cmpS op a b σ₂ Φ
  | .cmp2 o₁ o₂ a b c _ => .of fun ρ σ Φ => (vc S a).v ρ σ fun x σ₁ => (vc S b).v ρ σ₁ fun y σ₂ => cmpS o₁ x y σ₂ fun d σ₃ =>
      truthS d σ₃ fun t σ₄ => (t = false → Φ (.bool false) σ₄) ∧ (t = true → (vc S c).v ρ σ₄ fun z σ₅ => cmpS o₂ y z σ₅ Φ)
  | .call g _ args _ => .of fun ρ σ Φ => argsV (vcL S args) ρ σ fun ds σ' => S g ds σ' Φ
  | .bi b m _ _ args _ => .of fun ρ σ Φ => argsV (vcL S args) ρ σ fun ds σ' => biS b m ds σ' Φ
  | .isi e ty _ _ _ _ _ => .of fun ρ σ Φ => (vc S e).v ρ σ fun d σ' => ∃ t, tyS ty d σ' = some t ∧ Φ (.bool t) σ'
  | .sub o i _ => .of fun ρ σ Φ => (vc S o).v ρ σ fun a σ₁ => (vc S i).v ρ σ₁ fun b σ₂ => subS a b σ₂ Φ
  | .slc m o lo hi _ _ => .of fun ρ σ Φ => (vc S o).v ρ σ fun a σ₁ => vcO S lo ρ σ₁ fun l σ₂ => vcO S hi ρ σ₂ fun h σ₃ => slcS m a l h σ₃ Φ
  | .list m es _ => .of fun ρ σ Φ => argsV (vcL S es) ρ σ fun ds σ' => Nat.ble ds.length small = true ∧ mkS m ds σ' Φ
  | .tup es _ _ => .of fun ρ σ Φ => argsV (vcL S es) ρ σ fun ds σ' => Nat.ble ds.length small = true ∧ Φ (.tuple ds) σ'
  | .mmd mx _ _ e _ _ _ => .of fun ρ σ Φ => (vc S e).v ρ σ fun d σ' => mmS mx d σ' Φ
  | .sset _ _ _ _ e _ _ => .of fun ρ σ Φ => (vc S e).v ρ σ fun d σ' => ssetS d σ' Φ
  | .app o _ e _ => .of fun ρ σ Φ => (vc S o).v ρ σ fun a σ₁ => isML a σ₁ ∧ (vc S e).v ρ σ₁ fun b σ₂ => appS a b σ₂ Φ
  | .comp m elt x _ it ifs _ fr _ => .of fun ρ σ Φ => vcI S it ρ σ fun d ds σ₁ => ds.length ≤ small ∧
      compS (fun e σ' K => ifsT (vcL S ifs) ((ρ.only fr).put x e) σ' fun b σ'' => (b = true → (vc S elt).v ((ρ.only fr).put x e) σ'' fun r σ₃ => K (some r) σ₃) ∧ (b = false → K Option.none σ'')) (keepS d ds) ds σ₁ []
        fun out σ₂ => mkS m out σ₂ Φ
def vcL (S : Nat → Spec) : List PE → List VT
  | [] => []
  | e :: r => vc S e :: vcL S r
def vcO (S : Nat → Spec) : Option PE → PEnv → Store → (Option D → Store → Prop) → Prop
  | Option.none, _, σ, Φ => Φ Option.none σ
  | some e, ρ, σ, Φ => (vc S e).v ρ σ fun d σ' => Φ (some d) σ'
def vcI (S : Nat → Spec) : IT → PEnv → Store → (D → List D → Store → Prop) → Prop
  | .of e, ρ, σ, Φ => (vc S e).v ρ σ fun d σ' => ∃ ds, asL σ' d = some ds ∧ Φ d ds σ'
  | .range _ _ e _, ρ, σ, Φ => (vc S e).v ρ σ fun d σ' => match d with
    | .int n => n ≤ small ∧ -small ≤ n ∧ Φ .none (rangeD n) σ'
    | _ => False
end

mutual
def vcS (S : Nat → Spec) : PS → PEnv → Store → (Res → Prop) → Prop
  | .assign x _ e _, ρ, σ, Φ => (vc S e).v ρ σ fun d σ' => Φ (.next (ρ.put x d) σ')
  | .expr e _, ρ, σ, Φ => (vc S e).v ρ σ fun d σ' => match d with
    | .none => Φ (.next ρ σ')
    | _ => False
  | .ite t b o _, ρ, σ, Φ => (vc S t).t ρ σ fun c σ' => (c = true → vcSs S b ρ σ' Φ) ∧ (c = false → vcSs S o ρ σ' Φ)
  | .loop x _ it b _, ρ, σ, Φ => vcI S it ρ σ fun d ds σ₁ => forS (fun e ρ' σ' Ψ => vcSs S b (ρ'.put x e) σ' Ψ) (keepS d ds) ds ρ σ₁ Φ
  | .while t b _, ρ, σ, Φ => ∃ (J : Nat → PEnv → Store → Prop) (n : Nat), J n ρ σ ∧ ∀ n ρ σ, J n ρ σ → (vc S t).t ρ σ fun c σ' =>
      (c = true → vcSs S b ρ σ' fun r => match r with
        | .next ρ'' σ'' => ∃ m, m < n ∧ J m ρ'' σ''
        | .cont ρ'' σ'' => ∃ m, m < n ∧ J m ρ'' σ''
        | .brk ρ'' σ'' => Φ (.next ρ'' σ'')
        | .ret d σ'' => Φ (.ret d σ'')) ∧ (c = false → Φ (.next ρ σ'))
  | .ret e _, ρ, σ, Φ => (vc S e).v ρ σ fun d σ' => Φ (.ret d σ')
def vcSs (S : Nat → Spec) : List PS → PEnv → Store → (Res → Prop) → Prop
  | [], ρ, σ, Φ => Φ (.next ρ σ)
  | s :: r, ρ, σ, Φ => vcS S s ρ σ fun res => match res with
    | .next ρ' σ' => vcSs S r ρ' σ' Φ
    | .ret d σ' => Φ (.ret d σ')
    | .brk ρ' σ' => Φ (.brk ρ' σ')
    | .cont ρ' σ' => Φ (.cont ρ' σ')
end
end Mine

open PySem PyProof.Rows
set_option Elab.async false
namespace Mine

def WPv (c : Cx) (A : Around) (nm : Nat → Str) (vs : List Nat) (env : Env) (ρ : PEnv) (σ : Store) (t : Sem Value) (Φ : D → Store → Prop) : Prop :=
  ∀ P s, Good c nm vs env ρ σ P s → ∀ (Q : Value → Shared → Prop) (E : Value → Shared → Prop),
    (∀ v d σ' s', Φ d σ' → Step noF σ σ' s s' → StoreOk σ' P s'.heap → Rep (nd σ' P) s'.heap d v → Q v s') → wpAny c.M A t Q E s
def WPb (c : Cx) (A : Around) (nm : Nat → Str) (vs : List Nat) (env : Env) (ρ : PEnv) (σ : Store) (t : Sem Bool) (Φ : Bool → Store → Prop) : Prop :=
  ∀ P s, Good c nm vs env ρ σ P s → ∀ (Q : Bool → Shared → Prop) (E : Value → Shared → Prop),
    (∀ b σ' s', Φ b σ' → Step noF σ σ' s s' → StoreOk σ' P s'.heap → Q b s') → wpAny c.M A t Q E s
def WPl (c : Cx) (A : Around) (nm : Nat → Str) (vs : List Nat) (env : Env) (ρ : PEnv) (σ : Store) (t : Sem (List Value)) (Φ : List D → Store → Prop) : Prop :=
  ∀ P s, Good c nm vs env ρ σ P s → ∀ (Q : List Value → Shared → Prop) (E : Value → Shared → Prop),
    (∀ v d σ' s', Φ d σ' → Step noF σ σ' s s' → StoreOk σ' P s'.heap → RepL (nd σ' P) s'.heap d v → Q v s') → wpAny c.M A t Q E s

theorem Stay.of_keep {N : Addr → Prop} {h h' : Heap} (k : ∀ a o, h.get? a = some o → h'.get? a = some o) : Stay N N h h' := fun a o _ _ hN ho _ => ⟨k a o ho, hN⟩

theorem MRep.stay {σ σ' : Store} {P P' : Addr → Prop} {h h' : Heap} (k : Stay (nd σ P) (nd σ' P') h h') {a : Addr} {mo : MObj} (kd : ∀ b o, (b = a ∨ ∃ C fs, mo = .inst C b fs) → h.get? b = some o → h'.get? b = some o)
    (x : MRep σ P h a mo) : MRep σ' P' h' a mo := by
  cases mo with
  | mlist ds =>
    obtain ⟨vs, ⟨n, ho⟩, hl⟩ := x
    exact ⟨vs, ⟨n, kd a _ (.inl rfl) ho⟩, RepL.stay k ds _ hl⟩
  | inst C dx fs =>
    obtain ⟨n, es, h1, h2, h3, h4, h5, h6⟩ := x
    exact ⟨n, es, kd a _ (.inl rfl) h1, kd dx _ (.inr ⟨C, fs, rfl⟩) h2, h3, h4, fun i e f he hf => ⟨(h5 i e f he hf).1, Rep.stay k _ _ (h5 i e f he hf).2⟩, h6⟩
  | mdict kvs =>
    obtain ⟨n, es, h1, h2, h3⟩ := x
    exact ⟨n, es, kd a _ (.inl rfl) h1, h2, fun i e f he hf => ⟨(h3 i e f he hf).1, Rep.stay k _ _ (h3 i e f he hf).2⟩⟩

theorem StoreOk.keeps {σ P h h'} (x : StoreOk σ P h) (k : ∀ a o, h.get? a = some o → h'.get? a = some o) : StoreOk σ P h' :=
  ⟨fun a mo e => (x.rep a mo e).stay (Stay.of_keep k) (fun b o _ ho => k b o ho), x.apart, x.free⟩

theorem StoreOk.alive {σ P h} (x : StoreOk σ P h) {a : Addr} (hd : dom σ a) : ∃ o, h.get? a = some o := by
  rcases hd with h1 | ⟨y, C, fs, h1⟩
  · cases e : σ a with
    | none => exact absurd e h1
    | some mo =>
      have := x.rep a mo e
      cases mo with
      | mlist ds => obtain ⟨vs, ⟨n, ho⟩, _⟩ := this; exact ⟨_, ho⟩
      | inst C dx fs => obtain ⟨n, es, h1, _⟩ := this; exact ⟨_, h1⟩
      | mdict kvs => obtain ⟨n, es, h1, _⟩ := this; exact ⟨_, h1⟩
  · obtain ⟨n, es, _, h2, _⟩ := x.rep y _ h1
    exact ⟨_, h2⟩

theorem keeps_toks (s : Shared) (t : Nat) : Keeps s { s with toks := t } := ⟨s.heap, t, rfl, fun _ _ e => e⟩
theorem keeps_push (s : Shared) (o : Obj) (t : Nat) : Keeps s { s with heap := s.heap.push o, toks := t } := ⟨_, t, rfl, fun _ _ e => Heap.get?_push_of_some _ e⟩
theorem keeps_push' (s : Shared) (o : Obj) : Keeps s { s with heap := s.heap.push o } := ⟨_, s.toks, rfl, fun _ _ e => Heap.get?_push_of_some _ e⟩
theorem keeps_refl (s : Shared) : Keeps s s := ⟨s.heap, s.toks, rfl, fun _ _ e => e⟩
theorem keeps_heap {s s' : Shared} (k : Keeps s s') : ∀ a o, s.heap.get? a = some o → s'.heap.get? a = some o := by obtain ⟨h', tk, rfl, h⟩ := k; exact h

theorem get?_size_none (h : Heap) : h.get? h.objs.size = none := by
  cases e : h.get? h.objs.size with
  | none => rfl
  | some o => exact absurd (Heap.lt_size e) (Nat.lt_irrefl _)

theorem Good.nd_of_none {c nm vs env ρ σ P s} (g : Good c nm vs env ρ σ P s) {a : Addr} (ha : s.heap.get? a = none) : nd σ P a := by
  refine ⟨fun hd => ?_, fun hp => ?_⟩
  · obtain ⟨o, ho⟩ := g.st.alive hd
    rw [ha] at ho; cases ho
  · obtain ⟨o, ho⟩ := g.prot _ hp
    rw [ha] at ho; cases ho
theorem Good.nd_size {c nm vs env ρ σ P s} (g : Good c nm vs env ρ σ P s) : nd σ P s.heap.objs.size := g.nd_of_none (get?_size_none _)

/-- ends with plain data where all is kept -/
theorem fin_keeps {c nm vs env ρ σ P s s'} {Q : Value → Shared → Prop} {Φ : D → Store → Prop} {d : D} {v : Value} (g : Good c nm vs env ρ σ P s)
    (hQ : ∀ v d σ' s', Φ d σ' → Step noF σ σ' s s' → StoreOk σ' P s'.heap → Rep (nd σ' P) s'.heap d v → Q v s') (hΦ : Φ d σ) (k : Keeps s s') (hr : Rep (nd σ P) s'.heap d v) : Q v s' :=
  hQ v d σ s' hΦ (Step.of_keeps k) (g.st.keeps (keeps_heap k)) hr

theorem rep_int {N h i t} : Rep N h (.int i) (.int i t) := by simp [Rep]
theorem rep_bool {N h b} : Rep N h (.bool b) (.bool b) := by simp [Rep]
theorem rep_none {N h} : Rep N h .none .none := by simp [Rep]
theorem rep_str {N h x t} : Rep N h (.str x) (.str x t) := by simp [Rep]
theorem Rep.keeps {N h h' d v} (x : Rep N h d v) (k : ∀ a o, h.get? a = some o → h'.get? a = some o) : Rep N h' d v := Rep.stay (Stay.of_keep k) d v x
theorem RepL.keeps {N h h' d v} (x : RepL N h d v) (k : ∀ a o, h.get? a = some o → h'.get? a = some o) : RepL N h' d v := RepL.stay (Stay.of_keep k) d v x

section
variable {c : Cx} {A : Around} {nm : Nat → Str} {vs : List Nat} {env : Env} {ρ : PEnv} {σ : Store}

theorem R_var {i : Nat} {p : Pos} {Φ : D → Store → Prop} {d : D} (ok : EnvOk nm vs env) (hd : ρ.at i = some d) (h : Φ d σ) : WPv c A nm vs env ρ σ (eval (.Name (nm i) p) env) Φ := by
  intro P s g Q E hQ
  obtain ⟨hi, v, hv, hr⟩ := g.var i d hd
  refine wpAny_Name ?_ (ok.dbg i hi)
  have fin : Q v s := fin_keeps g hQ h (keeps_refl s) hr
  rcases hv with ⟨hk, m, hn, hm⟩ | ⟨hk, ca, hc, hcell⟩
  · exact wpAny_loadName_local ok.kind hk hn hm fin
  · exact wpAny_loadName_cell ok.kind hk hc hcell fin

theorem R_int {i : Int} {k : Nat} {p : Pos} {Φ : D → Store → Prop} (h : Φ (.int i) σ) : WPv c A nm vs env ρ σ (eval (.Constant (.int i) k p) env) Φ := fun _ s g _ _ hQ =>
  wpAny_Constant_int (fin_keeps g hQ h (keeps_toks s _) rep_int)
theorem R_none {k : Nat} {p : Pos} {Φ : D → Store → Prop} (h : Φ .none σ) : WPv c A nm vs env ρ σ (eval (.Constant .none k p) env) Φ := fun _ s g _ _ hQ =>
  wpAny_Constant_none (fin_keeps g hQ h (keeps_refl s) rep_none)
theorem R_bool {b : Bool} {k : Nat} {p : Pos} {Φ : D → Store → Prop} (h : Φ (.bool b) σ) : WPv c A nm vs env ρ σ (eval (.Constant (.bool b) k p) env) Φ := fun _ s g _ _ hQ =>
  wpAny_Constant_bool (fin_keeps g hQ h (keeps_refl s) rep_bool)
theorem R_str {x : Str} {k : Nat} {p : Pos} {Φ : D → Store → Prop} (h : Φ (.str x) σ) : WPv c A nm vs env ρ σ (eval (.Constant (.str x) k p) env) Φ := fun _ s g _ _ hQ =>
  wpAny_Constant_str (fin_keeps g hQ h (keeps_toks s _) rep_str)

/-- a global name -/
theorem R_glob {x : Str} {p : Pos} {v : Value} (ok : EnvOk nm vs env) (hx : env.kindOf x = some .globalImplicit) (hd : (x == ("__debug__" : Str)) = false) (hv : c.glob x = some v)
    {P s} (g : Good c nm vs env ρ σ P s) {Q : Value → Shared → Prop} {E : Value → Shared → Prop} (hQ : Q v s) : wpAny c.M A (eval (.Name x p) env) Q E s := by
  refine Calls.Name_function_global ok.kind hx ?_ hd
  have hg : s.heap.Ns env.globals c.mg := by rw [ok.globals]; exact c.hg.keeps g.base
  have hb : s.heap.Ns env.builtins c.mb := by rw [ok.builtins]; exact c.hb.keeps g.base
  unfold Cx.glob at hv
  cases hm : c.mg x with
  | some u => rw [hm] at hv; cases hv; exact Calls.loadGlobal_global hg hm hQ
  | none => rw [hm] at hv; exact Calls.loadGlobal_builtin hg hm hb hv hQ

/-- two in a row -/
theorem R_two {t₁ t₂ : Sem Value} {Ψ₁ : D → Store → Prop} {k : Value → Value → Shared → Prop} {P s} (g : Good c nm vs env ρ σ P s) {E : Value → Shared → Prop} {Φ : D → D → Store → Prop}
    (h₁ : WPv c A nm vs env ρ σ t₁ Ψ₁) (h₂ : ∀ d σ', Ψ₁ d σ' → WPv c A nm vs env ρ σ' t₂ (Φ d))
    (hk : ∀ v₁ v₂ d₁ d₂ σ' s', Φ d₁ d₂ σ' → Step noF σ σ' s s' → Good c nm vs env ρ σ' P s' → Rep (nd σ' P) s'.heap d₁ v₁ → Rep (nd σ' P) s'.heap d₂ v₂ → k v₁ v₂ s') :
    wpAny c.M A t₁ (fun v₁ s₁ => wpAny c.M A t₂ (fun v₂ s₂ => k v₁ v₂ s₂) E s₁) E s := by
  refine h₁ P s g _ _ fun v₁ d₁ σ₁ s₁ a₁ st₁ ok₁ r₁ => ?_
  have g₁ := g.next st₁ ok₁
  refine h₂ d₁ σ₁ a₁ P s₁ g₁ _ _ fun v₂ d₂ σ₂ s₂ a₂ st₂ ok₂ r₂ => ?_
  exact hk v₁ v₂ d₁ d₂ σ₂ s₂ a₂ (st₁.trans st₂) (g₁.next st₂ ok₂) (Rep.stay (st₂.stay P) _ _ r₁) r₂

theorem truthS_sound {d : D} {v : Value} {Φ : Bool → Store → Prop} {P s} {Q : Bool → Shared → Prop} {E : Value → Shared → Prop} (h : truthS d σ Φ) (hr : Rep (nd σ P) s.heap d v) (hQ : ∀ b, Φ b σ → Q b s) : wpAny c.M A (truthy v) Q E s := by
  cases d <;> simp only [truthS] at h
  simp only [Rep] at hr
  subst hr
  exact wpAny_truthy_bool (hQ _ h)
end
end Mine

open PySem PyProof.Rows
set_option Elab.async false
namespace Mine

theorem sizeLine_small : small ≤ sizeLine := by decide
theorem small_63 {n : Nat} (h : n ≤ small) : ((n : Nat) : Int) < 2 ^ 63 := by unfold small at h; omega

theorem big_9000 : 10 ^ 50 ≤ 2 ^ 9000 := Nat.le_trans (by decide : 10 ^ 50 ≤ 2 ^ 200) (Nat.pow_le_pow_right (by decide) (by decide))

theorem add_list_any {prog : Program} {w : World} {A : Around} {E : Value → Shared → Prop} {s : Shared} {l b : Addr} {its its2 : Array Value} {Q : Value → Shared → Prop} (hl : s.heap.IsList l its) (hb : s.heap.IsList b its2)
    (h : Q (.ref s.heap.objs.size) { s with heap := s.heap.push { cls := .type "list", data := .seq (its ++ its2) } }) (hsz : its.size + its2.size ≤ sizeLine) : wpAny (model prog w) A (binaryOp .Add (.ref l) (.ref b)) Q E s := by
  obtain ⟨⟨cls, dd, data, sl⟩, ho, hc, n, hd⟩ := id hl
  obtain ⟨⟨cls2, dd2, data2, sl2⟩, ho2, hc2, n2, hd2⟩ := id hb
  simp only at hc hd hc2 hd2
  subst hc hd hc2 hd2
  exact concat_meets ⟨_, ho, rfl⟩ ⟨_, ho2, rfl⟩ noFill_list_add seq_list_add PySem.F.slot_list_add PySem.F.entry_list_add (PySem.F.args_list_add_2 _ _) (list_addW l b its its2 n n2 dd dd2 sl sl2 hsz) ⟨ho, ho2, h⟩

section
variable {c : Cx} {A : Around} {nm : Nat → Str} {vs : List Nat} {env : Env} {ρ : PEnv} {σ : Store} {P : Addr → Prop} {s : Shared} {Q : Value → Shared → Prop} {E : Value → Shared → Prop} {Φ : D → Store → Prop}

theorem newList_rep (g : Good c nm vs env ρ σ P s) {ds : List D} {us : List Value} {h' : Heap} (k : ∀ a o, s.heap.get? a = some o → h'.get? a = some o) {a : Addr} (ha : s.heap.get? a = none) {n : Nat}
    (hn : ∃ o, h'.get? a = some o ∧ o.cls = .type "list" ∧ o.data = .seq us.toArray n) (hr : RepL (nd σ P) s.heap ds us) : nd σ P a ∧ Rep (nd σ P) h' (.list ds) (.ref a) := by
  have hN : nd σ P a := g.nd_of_none ha
  obtain ⟨o, ho, hc, hd⟩ := hn
  refine ⟨hN, ?_⟩
  simp only [Rep]
  exact ⟨a, us.toArray, rfl, hN, ⟨o, ho, hc, n, hd⟩, by simpa using RepL.keeps hr k⟩

theorem dom_set {σ : Store} {a b : Addr} {ds : List D} : dom (σ.set a (.mlist ds)) b → dom σ b ∨ b = a := by
  intro h
  rcases h with h | ⟨x, C, fs, h⟩
  · unfold Store.set at h
    by_cases e : b = a
    · exact .inr e
    · rw [if_neg e] at h; exact .inl (.inl h)
  · unfold Store.set at h
    by_cases e : x = a
    · rw [if_pos e] at h; cases h
    · rw [if_neg e] at h; exact .inl (.inr ⟨x, C, fs, h⟩)

/-- a new list becomes a store object -/
theorem alloc_mut (g : Good c nm vs env ρ σ P s) {ds : List D} {us : List Value} {s' : Shared} (k : Keeps s s') {a : Addr} (ha : s.heap.get? a = none) (hn : s'.heap.PlainList a us.toArray) (hr : RepL (nd σ P) s.heap ds us) :
    freshIn σ a ∧ Step noF σ (σ.set a (.mlist ds)) s s' ∧ StoreOk (σ.set a (.mlist ds)) P s'.heap := by
  have kh := keeps_heap k
  have nda : ¬ dom σ a := fun hd => by obtain ⟨o, ho⟩ := g.st.alive hd; rw [ha] at ho; cases ho
  have npa : ¬ P a := fun hp => by obtain ⟨o, ho⟩ := g.prot _ hp; rw [ha] at ho; cases ho
  have hf : freshIn σ a := ⟨by
    cases e : σ a with
    | none => rfl
    | some m => exact absurd (Or.inl (by rw [e]; exact Option.some_ne_none m)) nda, fun x C fs e => nda (.inr ⟨x, C, fs, e⟩)⟩
  have st : Stay (nd σ P) (nd (σ.set a (.mlist ds)) P) s.heap s'.heap := fun b o items n hN ho _ => ⟨kh b o ho, fun hd => (dom_set hd).elim hN.1 (fun e => by subst e; rw [ha] at ho; cases ho), hN.2⟩
  refine ⟨hf, ⟨(Step.of_keeps (F := noF) (σ := σ) k).same, fun b o e _ _ => kh b o e, fun b o e => ⟨o, kh b o e⟩, fun b hb => (dom_set hb).imp id (fun e : b = a => by rw [e]; exact ha)⟩, ⟨fun b mo e => ?_, fun x C dx fs e => ?_, fun b hb => ?_⟩⟩
  · unfold Store.set at e
    by_cases hb : b = a
    · rw [if_pos hb] at e
      cases e
      subst hb
      exact ⟨us.toArray, hn, by simpa using RepL.stay st _ _ hr⟩
    · rw [if_neg hb] at e
      exact (g.st.rep b mo e).stay st fun b' o _ ho => kh b' o ho
  · unfold Store.set at e ⊢
    by_cases hx : x = a
    · rw [if_pos hx] at e; cases e
    · rw [if_neg hx] at e
      obtain ⟨h1, h2⟩ := g.st.apart x C dx fs e
      refine ⟨?_, fun y C' fs' e' => ?_⟩
      · rw [if_neg (fun q : dx = a => hf.2 x C fs (q ▸ e))]; exact h1
      · by_cases hy : y = a
        · rw [if_pos hy] at e'; cases e'
        · rw [if_neg hy] at e'; exact h2 y C' fs' e'
  · rcases dom_set hb with h | h
    · exact g.st.free b h
    · subst h; exact npa

/-- a new list ends by mkS -/
theorem fin_list (g : Good c nm vs env ρ σ P s) {m : Bool} {ds : List D} {us : List Value} {s' : Shared} (hΦ : mkS m ds σ Φ) (hQ : ∀ v d σ' s', Φ d σ' → Step noF σ σ' s s' → StoreOk σ' P s'.heap → Rep (nd σ' P) s'.heap d v → Q v s')
    (k : Keeps s s') {a : Addr} (ha : s.heap.get? a = none) (hn : s'.heap.PlainList a us.toArray) (hr : RepL (nd σ P) s.heap ds us) : Q (.ref a) s' := by
  unfold mkS at hΦ
  cases m with
  | false =>
    simp only [Bool.false_eq_true, if_false] at hΦ
    obtain ⟨n, ho⟩ := hn
    exact fin_keeps g hQ hΦ k (newList_rep g (keeps_heap k) ha ⟨_, ho, rfl, rfl⟩ hr).2
  | true =>
    simp only [if_true] at hΦ
    obtain ⟨hf, st, ok⟩ := alloc_mut g k ha hn hr
    exact hQ _ (.obj a) _ s' (hΦ a hf) st ok (by simp [Rep])

/-- a new tuple -/
theorem fin_tuple (g : Good c nm vs env ρ σ P s) {ds : List D} {us : List Value} {s' : Shared} (hΦ : Φ (.tuple ds) σ) (hQ : ∀ v d σ' s', Φ d σ' → Step noF σ σ' s s' → StoreOk σ' P s'.heap → Rep (nd σ' P) s'.heap d v → Q v s')
    (k : Keeps s s') {a : Addr} (ha : s.heap.get? a = none) (hn : s'.heap.IsTuple a us.toArray) (hr : RepL (nd σ P) s.heap ds us) : Q (.ref a) s' := by
  refine fin_keeps g hQ hΦ k ?_
  simp only [Rep]
  exact ⟨a, us.toArray, rfl, g.nd_of_none ha, hn, by simpa using RepL.keeps hr (keeps_heap k)⟩

/-- what a sequence is in the heap -/
theorem asL_heap (ok : StoreOk σ P s.heap) {d : D} {v : Value} {xs : List D} (hr : Rep (nd σ P) s.heap d v) (e : asL σ d = some xs) :
    ∃ a us, v = .ref a ∧ (s.heap.IsList a us ∨ s.heap.IsTuple a us) ∧ RepL (nd σ P) s.heap xs us.toList := by
  cases d <;> simp only [asL] at e <;> try cases e
  · simp only [Rep] at hr
    obtain ⟨a, us, h1, _, h2, h3⟩ := hr
    exact ⟨a, us, h1, .inr h2, h3⟩
  · simp only [Rep] at hr
    obtain ⟨a, us, h1, _, h2, h3⟩ := hr
    exact ⟨a, us, h1, .inl h2, h3⟩
  · rename_i a
    simp only [Rep] at hr
    cases h : σ a with
    | none => rw [h] at e; cases e
    | some mo =>
      rw [h] at e
      cases mo with
      | mlist ds =>
        cases e
        obtain ⟨us, h1, h2⟩ := ok.rep a _ h
        exact ⟨a, us, hr, .inl h1.isList, h2⟩
      | inst C dx fs => cases e
      | mdict kvs => cases e

theorem binS_sound {op : Operator} {a b : D} {v u : Value} (g : Good c nm vs env ρ σ P s) (h : binS op a b σ Φ) (ha : Rep (nd σ P) s.heap a v) (hb : Rep (nd σ P) s.heap b u)
    (hQ : ∀ v d σ' s', Φ d σ' → Step noF σ σ' s s' → StoreOk σ' P s'.heap → Rep (nd σ' P) s'.heap d v → Q v s') : wpAny c.M A (binaryOp op v u) Q E s := by
  unfold binS at h
  split at h
  · simp only [Rep] at ha hb; obtain ⟨t, rfl⟩ := ha; obtain ⟨t', rfl⟩ := hb
    exact PyProof.Rows.add_int (fin_keeps g hQ h (keeps_toks s _) rep_int)
  · simp only [Rep] at ha hb; obtain ⟨t, rfl⟩ := ha; obtain ⟨t', rfl⟩ := hb
    exact PyProof.Rows.sub_int (fin_keeps g hQ h (keeps_toks s _) rep_int)
  · simp only [Rep] at ha hb; obtain ⟨t, rfl⟩ := ha; obtain ⟨t', rfl⟩ := hb
    exact PyProof.Rows.mul_int (fin_keeps g hQ h.2 (keeps_toks s _) rep_int) (by
      have h1 := h.1
      unfold IntMulOk
      intro hx
      simp only [Bool.and_eq_true, decide_eq_true_eq] at hx
      rcases h1 with h1 | h1
      · have := PyProof.Rows.intBits_le h1; have h2 := hx.1.1; unfold shortFactorBits at h2; omega
      · have := PyProof.Rows.intBits_le h1; have h2 := hx.1.2; unfold shortFactorBits at h2; omega)
  · simp only [Rep] at ha hb; obtain ⟨t, rfl⟩ := ha; obtain ⟨t', rfl⟩ := hb
    rename_i x y
    refine PyProof.Rows.mod_int (by omega) ?_
    rw [Int.fmod_eq_emod_of_nonneg x (by omega : 0 ≤ y)]
    exact fin_keeps g hQ h.2 (keeps_toks s _) rep_int
  · simp only [Rep] at ha hb; obtain ⟨t, rfl⟩ := ha; obtain ⟨t', rfl⟩ := hb
    rename_i x y
    have h1 := h.1
    refine PyProof.Rows.floordiv_int (by omega) ?_ (Or.inl (PyProof.noPylong_of_log2 ?_))
    · rw [Int.fdiv_eq_ediv_of_nonneg x (by omega : 0 ≤ y)]
      exact fin_keeps g hQ h.2 (keeps_toks s _) rep_int
    · have h3 : y.natAbs ≠ 0 := by omega
      refine (Nat.log2_lt h3).mpr ?_
      have h4 := h1.2
      refine Nat.lt_of_lt_of_le (m := 10 ^ 50) ?_ big_9000
      omega
  · simp only [Rep] at ha hb; obtain ⟨t, rfl⟩ := ha; obtain ⟨t', rfl⟩ := hb
    exact PyProof.Rows.pow_int h.1.1 h.1.2 (fin_keeps g hQ h.2 (keeps_toks s _) rep_int)
  · simp only [Rep] at ha hb
    obtain ⟨l, us, rfl, _, hl, hr⟩ := ha
    obtain ⟨l', us', rfl, _, hl', hr'⟩ := hb
    have e1 := hr.length; have e2 := hr'.length
    simp only [Array.length_toList] at e1 e2
    refine add_list_any hl hl' ?_ (by have := h.1; have := sizeLine_small; omega)
    refine fin_keeps g hQ h.2 (keeps_push' s _) (newList_rep g (keeps_heap (keeps_push' s _)) (get?_size_none _) (n := 0) ⟨_, Heap.get?_push_size _ rfl, rfl, ?_⟩ (us := us.toList ++ us'.toList) (hr.append hr')).2
    simp
  · exact h.elim
end
end Mine

open PySem PyProof.Rows
set_option Elab.async false
namespace Mine

theorem beq_dec (x y : Int) : (x == y) = decide (x = y) := by by_cases h : x = y <;> simp [h]
theorem isTup_of {h : Heap} {a : Addr} {us : Array Value} (x : h.IsTuple a us) : IsTup h a us.toList.toArray := by rw [Array.toArray_toList]; exact x

mutual
theorem reads_of {N : Addr → Prop} {h : Heap} : ∀ (d : D) (v : Value) (x : PyData), Rep N h d v → D.py d = some x → ∃ as, Reads h v x as
  | .none, v, x, r, e => by simp only [Rep] at r; simp only [D.py] at e; cases e; subst r; exact ⟨_, .none⟩
  | .bool b, v, x, r, e => by simp only [Rep] at r; simp only [D.py] at e; cases e; subst r; exact ⟨_, .bool b⟩
  | .int i, v, x, r, e => by simp only [Rep] at r; simp only [D.py] at e; cases e; obtain ⟨t, rfl⟩ := r; exact ⟨_, .int i t⟩
  | .str i, v, x, r, e => by simp only [Rep] at r; simp only [D.py] at e; cases e; obtain ⟨t, rfl⟩ := r; exact ⟨_, .str i t⟩
  | .obj a, v, x, r, e => by simp only [D.py] at e; cases e
  | .tuple ds, v, x, r, e => by
    simp only [Rep] at r
    simp only [D.py, Option.map_eq_some_iff] at e
    obtain ⟨xs, e1, rfl⟩ := e
    obtain ⟨a, us, rfl, _, ⟨o, ho, hc, n, hd⟩, hl⟩ := r
    obtain ⟨as, ra⟩ := readsL_of ds us.toList xs hl e1
    exact ⟨_, .tuple ho hc hd ra⟩
  | .list ds, v, x, r, e => by
    simp only [Rep] at r
    simp only [D.py, Option.map_eq_some_iff] at e
    obtain ⟨xs, e1, rfl⟩ := e
    obtain ⟨a, us, rfl, _, ⟨o, ho, hc, n, hd⟩, hl⟩ := r
    obtain ⟨as, ra⟩ := readsL_of ds us.toList xs hl e1
    exact ⟨_, .list ho hc hd ra⟩
theorem readsL_of {N : Addr → Prop} {h : Heap} : ∀ (ds : List D) (vs : List Value) (xs : List PyData), RepL N h ds vs → D.pys ds = some xs → ∃ as, ReadsAll h vs xs as
  | [], vs, xs, r, e => by simp only [RepL] at r; simp only [D.pys] at e; cases e; subst r; exact ⟨_, .nil⟩
  | d :: ds, vs, xs, r, e => by
    simp only [RepL] at r
    obtain ⟨v, u, rfl, h1, h2⟩ := r
    simp only [D.pys, Option.bind_eq_some_iff, Option.map_eq_some_iff] at e
    obtain ⟨y, e1, ys, e2, rfl⟩ := e
    obtain ⟨as, ra⟩ := reads_of d v y h1 e1
    obtain ⟨bs, rb⟩ := readsL_of ds u ys h2 e2
    exact ⟨_, .cons ra rb⟩
end

section
variable {c : Cx} {A : Around} {nm : Nat → Str} {vs : List Nat} {env : Env} {ρ : PEnv} {σ : Store} {P : Addr → Prop} {s : Shared} {Q : Value → Shared → Prop} {E : Value → Shared → Prop} {Φ : D → Store → Prop}

theorem eqP_reads (ok : StoreOk σ P s.heap) {d : D} {v : Value} {x : PyData} (hr : Rep (nd σ P) s.heap d v) (e : eqP σ d = some x) : ∃ as, Reads s.heap v x as := by
  cases d with
  | obj a =>
    simp only [eqP] at e
    simp only [Rep] at hr
    subst hr
    cases h : σ a with
    | none => rw [h] at e; cases e
    | some mo =>
      rw [h] at e
      cases mo with
      | mlist ds =>
        simp only [Option.map_eq_some_iff] at e
        obtain ⟨xs, e1, rfl⟩ := e
        obtain ⟨us, ⟨n, ho⟩, hl⟩ := ok.rep a _ h
        obtain ⟨as, ra⟩ := readsL_of ds us.toList xs hl e1
        exact ⟨_, .list ho rfl rfl ra⟩
      | inst C dx fs => cases e
      | mdict kvs => cases e
  | _ => exact reads_of _ v x hr (by simpa only [eqP] using e)

theorem isNone_val {d : D} {v : Value} {t : Bool} (hr : Rep (nd σ P) s.heap d v) (e : isNone d = some t) : (v == Value.none) = t := by
  cases d <;> simp only [isNone] at e <;> cases e <;> simp only [Rep] at hr
  · subst hr; rfl
  · subst hr; rfl
  · obtain ⟨t, rfl⟩ := hr; rfl
  · obtain ⟨t, rfl⟩ := hr; rfl
  · obtain ⟨a, us, rfl, _⟩ := hr; rfl
  · obtain ⟨a, us, rfl, _⟩ := hr; rfl
  · subst hr; rfl

theorem cmpS_sound {op : CmpOp} {a b : D} {v u : Value} (hA : A.units + 64 < cLine) (g : Good c nm vs env ρ σ P s) (h : cmpS op a b σ Φ) (ha : Rep (nd σ P) s.heap a v) (hb : Rep (nd σ P) s.heap b u)
    (hQ : ∀ v d σ' s', Φ d σ' → Step noF σ σ' s s' → StoreOk σ' P s'.heap → Rep (nd σ' P) s'.heap d v → Q v s') : wpAny c.M A (compareOp op v u) Q E s := by
  have fin : ∀ t, Φ (.bool t) σ → Q (.bool t) s := fun t ht => fin_keeps g hQ ht (keeps_refl s) rep_bool
  unfold cmpS at h
  split at h
  · simp only [Rep] at ha hb; obtain ⟨t, rfl⟩ := ha; obtain ⟨t', rfl⟩ := hb
    exact PyProof.Rows.lt_int (fin _ h)
  · simp only [Rep] at ha hb; obtain ⟨t, rfl⟩ := ha; obtain ⟨t', rfl⟩ := hb
    exact PyProof.Rows.le_int (fin _ h)
  · simp only [Rep] at ha hb; obtain ⟨t, rfl⟩ := ha; obtain ⟨t', rfl⟩ := hb
    exact PyProof.Rows.gt_int (fin _ h)
  · simp only [Rep] at ha hb; obtain ⟨t, rfl⟩ := ha; obtain ⟨t', rfl⟩ := hb
    exact PyProof.Rows.ge_int (fin _ h)
  · simp only [Rep] at ha hb; obtain ⟨t, rfl⟩ := ha; obtain ⟨t', rfl⟩ := hb
    exact PyProof.Rows.eq_int (fin _ (by rw [beq_dec]; exact h))
  · simp only [Rep] at ha hb; obtain ⟨t, rfl⟩ := ha; obtain ⟨t', rfl⟩ := hb
    exact PyProof.Rows.ne_int (fin _ (by rw [bne, beq_dec]; exact h))
  · simp only [Rep] at ha hb; subst ha; subst hb
    exact PyProof.Rows.eq_bool (fin _ h)
  · simp only [Rep] at ha hb; subst ha; subst hb
    exact PyProof.Rows.ne_bool (fin _ h)
  · obtain ⟨t, e, h⟩ := h
    simp only [Rep] at hb; subst hb
    exact is_none_gen (fin _ (by rw [isNone_val ha e]; exact h))
  · obtain ⟨t, e, h⟩ := h
    simp only [Rep] at hb; subst hb
    exact isnot_none_gen (fin _ (by rw [isNone_val ha e]; exact h))
  · obtain ⟨x, y, e1, e2, s1, s2, h⟩ := h
    obtain ⟨as, ra⟩ := eqP_reads g.st ha e1
    obtain ⟨bs, rb⟩ := eqP_reads g.st hb e2
    exact eq_dataH ra rb s1 s2 hA (fin _ h)
  · obtain ⟨x, y, e1, e2, s1, s2, h⟩ := h
    obtain ⟨as, ra⟩ := eqP_reads g.st ha e1
    obtain ⟨bs, rb⟩ := eqP_reads g.st hb e2
    exact ne_dataH ra rb s1 s2 hA (fin _ h)
  · exact h.elim

theorem subS_sound {o i : D} {v u : Value} {value slice : Expr} (hs : ∀ x y, subscripted slice false x y = operate [x, y] (getItem x y)) (g : Good c nm vs env ρ σ P s) (h : subS o i σ Φ) (ha : Rep (nd σ P) s.heap o v) (hb : Rep (nd σ P) s.heap i u)
    (hQ : ∀ v d σ' s', Φ d σ' → Step noF σ σ' s s' → StoreOk σ' P s'.heap → Rep (nd σ' P) s'.heap d v → Q v s') : wpAny c.M A (subscriptTail value slice v u) Q E s := by
  unfold subS at h
  split at h
  · rename_i k
    obtain ⟨xs, e, hn, h⟩ := h
    simp only [Rep] at hb; obtain ⟨t, rfl⟩ := hb
    obtain ⟨a, us, rfl, hl, hr⟩ := asL_heap g.st ha e
    have el := hr.length
    simp only [Array.length_toList] at el
    have hsz : us.size ≤ small := by omega
    unfold small at hsz
    rcases h with ⟨h0, d, hd, h⟩ | ⟨rfl, d, hd, h⟩
    · obtain ⟨x, hx, hrx⟩ := hr.get hd
      have hlt : k.toNat < us.size := by
        obtain ⟨hlt, _⟩ := List.getElem?_eq_some_iff.mp hx
        simpa using hlt
      have hx' : us[k.toNat]? = some x := by simpa using hx
      have fin : Q x s := fin_keeps g hQ h (keeps_refl s) hrx
      rcases hl with hl | hl
      · exact tail_any hl.typeIs slot_list_getitem.lookup (wpAny_getItem_list hl h0 (by omega) hx' fin) (hs _ _)
      · refine item_tupleT (l := us.toList) (j := k.toNat) (isTup_of hl) (by omega) (by omega) ?_ (by simpa using hx) fin (hs _ _)
        unfold seqIndex?
        simp only [Array.length_toList]
        rw [if_neg (by omega : ¬ k < 0), if_pos (by simp; omega)]
    · have hne : xs ≠ [] := by intro q; subst q; simp at hd
      have hpos : 0 < xs.length := List.length_pos_iff.mpr hne
      rw [List.getLast?_eq_getElem?] at hd
      obtain ⟨x, hx, hrx⟩ := hr.get hd
      have hx' : us[us.size - 1]? = some x := by rw [← el] at hx; simpa using hx
      have fin : Q x s := fin_keeps g hQ h (keeps_refl s) hrx
      rcases hl with hl | hl
      · refine tail_any hl.typeIs slot_list_getitem.lookup (wpAny_getItem_list_neg hl (by omega) (by omega) (by omega) ?_ fin) (hs _ _)
        rw [show (-1 + (us.size : Int)).toNat = us.size - 1 by omega]; exact hx'
      · refine item_tupleT (l := us.toList) (j := us.size - 1) (isTup_of hl) (by omega) (by omega) ?_ (by simpa using hx') fin (hs _ _)
        unfold seqIndex?
        simp only [Array.length_toList]
        rw [if_pos (by omega : (-1 : Int) < 0), if_pos (by simp; omega)]
        congr 1; omega
  · exact h.elim
end
end Mine

open PySem PyProof.Rows
set_option Elab.async false
namespace Mine
section
variable {c : Cx} {A : Around} {nm : Nat → Str} {vs : List Nat} {env : Env} {ρ : PEnv} {σ : Store} {P : Addr → Prop} {s : Shared} {Q : Value → Shared → Prop} {E : Value → Shared → Prop} {Φ : D → Store → Prop}

theorem tyS_sound {ty : TY} {d : D} {v : Value} {t : Bool} (g : Good c nm vs env ρ σ P s) (e : tyS ty d σ = some t) (h : Φ (.bool t) σ) (hr : Rep (nd σ P) s.heap d v)
    (hQ : ∀ v d σ' s', Φ d σ' → Step noF σ σ' s s' → StoreOk σ' P s'.heap → Rep (nd σ' P) s'.heap d v → Q v s') : wpAny c.M A (call (.builtin "isinstance") [v, .type ty.name]) Q E s := by
  have f1 : Q (.bool t) s := fin_keeps g hQ h (keeps_refl s) rep_bool
  have f2 : Q (.bool t) { s with toks := s.toks + 1 } := fin_keeps g hQ h (keeps_toks s _) rep_bool
  have lst : ∀ (a : Addr) (ds : List D) us, s.heap.IsList a us → ty = .list → t = true → wpAny c.M A (call (.builtin "isinstance") [.ref a, .type ty.name]) Q E s := fun a ds us hl e1 e2 => by
    subst e1; subst e2; exact IsiPair.isList_list hl (fun _ _ x => x) f1
  unfold tyS at e
  split at e
  · simp only [Rep] at hr; obtain ⟨u, rfl⟩ := hr; cases e; exact IsiPair.int_int f1
  · simp only [Rep] at hr; subst hr; cases e; exact IsiPair.bool_int f1
  · simp only [Rep] at hr; subst hr; cases e; exact IsiPair.bool_bool f1
  · simp only [Rep] at hr; obtain ⟨u, rfl⟩ := hr; cases e; exact IsiPair.int_bool f2
  · simp only [Rep] at hr; obtain ⟨a, us, rfl, _, hl, _⟩ := hr; cases e; exact IsiPair.isList_list hl (fun _ _ x => x) f1
  · simp only [Rep] at hr; obtain ⟨a, us, rfl, _, hl, _⟩ := hr; cases e; exact IsiPair.isTuple_list hl (fun _ _ x => x) f2
  · rename_i a
    simp only [Rep] at hr; subst hr
    split at e
    · rename_i ds hm
      cases e
      obtain ⟨us, hl, _⟩ := g.st.rep a _ hm
      exact IsiPair.isList_list hl.isList (fun _ _ x => x) f1
    · cases e
  · simp only [Rep] at hr; obtain ⟨a, us, rfl, _, hl, _⟩ := hr; cases e; exact IsiPair.isTuple_tuple hl (fun _ _ x => x) f1
  · simp only [Rep] at hr; obtain ⟨a, us, rfl, _, hl, _⟩ := hr; cases e; exact IsiPair.isList_tuple hl (fun _ _ x => x) f2
  · cases e

theorem asList_heap (ok : StoreOk σ P s.heap) {d : D} {v : Value} {xs : List D} (hr : Rep (nd σ P) s.heap d v) (e : asL σ d = some xs) (ht : isTuple d = false) :
    ∃ a us, v = .ref a ∧ s.heap.IsList a us ∧ RepL (nd σ P) s.heap xs us.toList := by
  cases d <;> simp only [asL] at e <;> try cases e
  · cases ht
  · simp only [Rep] at hr
    obtain ⟨a, us, h1, _, h2, h3⟩ := hr
    exact ⟨a, us, h1, h2, h3⟩
  · rename_i a
    simp only [Rep] at hr
    cases h : σ a with
    | none => rw [h] at e; cases e
    | some mo =>
      rw [h] at e
      cases mo with
      | mlist ds =>
        cases e
        obtain ⟨us, h1, h2⟩ := ok.rep a _ h
        exact ⟨a, us, hr, h1.isList, h2⟩
      | inst C dx fs => cases e
      | mdict kvs => cases e
theorem ints_of_repL {N : Addr → Prop} {h : Heap} : ∀ {ns : List Int} {us : List Value}, RepL N h (ns.map D.int) us → IntsAre us ns
  | [], us, x => by simp only [List.map_nil, RepL] at x; subst x; exact .nil
  | n :: r, us, x => by
    simp only [List.map_cons, RepL, Rep] at x
    obtain ⟨v, q, rfl, ⟨t, rfl⟩, hq⟩ := x
    exact .cons n t (ints_of_repL hq)
theorem repL_of_ints {N : Addr → Prop} {h : Heap} : ∀ {vs : List Value} {ns : List Int}, IntsAre vs ns → RepL N h (ns.map D.int) vs
  | _, _, .nil => .nil
  | _, _, .cons n t r => .cons (by simp only [Rep]; exact ⟨t, rfl⟩) (repL_of_ints r)

theorem mm_sound {mx : Bool} {d : D} {v : Value} (hh : A.handled = none) (g : Good c nm vs env ρ σ P s) (h : mmS mx d σ Φ) (hr : Rep (nd σ P) s.heap d v)
    (hQ : ∀ v d σ' s', Φ d σ' → Step noF σ σ' s s' → StoreOk σ' P s'.heap → Rep (nd σ' P) s'.heap d v → Q v s') : wpAny c.M A (call (.builtin (if mx then "max" else "min")) [v] [(Str.ofString "default", .none)]) Q E s := by
  obtain ⟨ns, e, ht, h⟩ := h
  obtain ⟨a, us, rfl, hl, hw⟩ := asList_heap g.st hr e ht
  have hI := ints_of_repL hw
  have hl' : s.heap.IsList a us.toList.toArray := by rw [Array.toArray_toList]; exact hl
  cases mx with
  | true =>
    refine call_max_d hh hl' hI fun v h' tk hv hk => ?_
    simp only [if_true] at h
    refine fin_keeps g hQ h ⟨h', tk, rfl, hk⟩ ?_
    cases e : maxOf ns with
    | none => rw [e] at hv; subst hv; exact rep_none
    | some m => rw [e] at hv; obtain ⟨t, rfl⟩ := hv; exact rep_int
  | false =>
    refine call_min_d hh hl' hI fun v h' tk hv hk => ?_
    simp only [Bool.false_eq_true, if_false] at h
    refine fin_keeps g hQ h ⟨h', tk, rfl, hk⟩ ?_
    cases e : minOf ns with
    | none => rw [e] at hv; subst hv; exact rep_none
    | some m => rw [e] at hv; obtain ⟨t, rfl⟩ := hv; exact rep_int

theorem sset_sound {d : D} {v : Value} (hh : A.handled = none) (g : Good c nm vs env ρ σ P s) (h : ssetS d σ Φ) (hr : Rep (nd σ P) s.heap d v)
    (hQ : ∀ v d σ' s', Φ d σ' → Step noF σ σ' s s' → StoreOk σ' P s'.heap → Rep (nd σ' P) s'.heap d v → Q v s') : wpAny c.M A (call (.type "set") [v]) (fun u s' => wpAny c.M A (call (.builtin "sorted") [u]) Q E s') E s := by
  obtain ⟨ns, e, ht, h6, h⟩ := h
  obtain ⟨a, us, rfl, hl, hw⟩ := asList_heap g.st hr e ht
  have e1 : (ns.map fun (k : Nat) => D.int k) = (ns.map Int.ofNat).map D.int := by rw [List.map_map]; rfl
  rw [e1] at hw
  refine call_set hh hl (ints_of_repL hw) h6 fun h' tk hS hk => ?_
  have kh : ∀ b o, s.heap.get? b = some o → h'.get? b = some o := fun b o e => hk b o (Heap.lt_size e) e
  refine sorted_set (bits_lt h6) hS hh fun Da h'' tk' out hl' hD hI hk' => ?_
  have kk : Keeps s { s with heap := h'', toks := tk' } := ⟨h'', tk', rfl, fun b o e => hk' b o (kh b o e)⟩
  have hsD : s.heap.get? Da = none := by
    cases e : s.heap.get? Da with
    | none => rfl
    | some o => have := kh Da o e; rw [hD] at this; cases this
  refine fin_keeps g hQ h kk ?_
  have e2 : ((keysOf (bitsOf ns)).map fun (k : Nat) => D.int k) = ((keysOf (bitsOf ns)).map Int.ofNat).map D.int := by rw [List.map_map]; rfl
  rw [e2]
  simp only [Rep]
  exact ⟨Da, out, rfl, g.nd_of_none hsD, hl', repL_of_ints hI⟩

theorem dom_set_same {a x : Addr} {xs ys : List D} (h : σ a = some (.mlist xs)) : dom (σ.set a (.mlist ys)) x ↔ dom σ x := by
  constructor
  · intro hd
    rcases dom_set hd with q | rfl
    · exact q
    · exact .inl (by rw [h]; exact Option.some_ne_none _)
  · rintro (q | ⟨y, C, fs, q⟩)
    · left
      unfold Store.set
      by_cases e : x = a
      · rw [if_pos e]; exact Option.some_ne_none _
      · rw [if_neg e]; exact q
    · right
      refine ⟨y, C, fs, ?_⟩
      unfold Store.set
      by_cases e : y = a
      · subst e; rw [h] at q; cases q
      · rw [if_neg e]; exact q

/-- a list of the store changes in place -/
theorem upd_mut (g : Good c nm vs env ρ σ P s) {a : Addr} {xs ys : List D} (hm : σ a = some (.mlist xs)) {h' : Heap} {tk : Nat} (hs : Heap.SameBut a s.heap h') {us : Array Value} (hn : h'.PlainList a us) (hr : RepL (nd σ P) s.heap ys us.toList) :
    Step noF σ (σ.set a (.mlist ys)) s { s with heap := h', toks := tk } ∧ StoreOk (σ.set a (.mlist ys)) P h' := by
  have hda : dom σ a := .inl (by rw [hm]; exact Option.some_ne_none _)
  have keep : ∀ b o, b ≠ a → s.heap.get? b = some o → h'.get? b = some o := fun b o hb e => hs.extBut b o hb e
  have st : Stay (nd σ P) (nd (σ.set a (.mlist ys)) P) s.heap h' := fun b o items n hN ho _ => ⟨keep b o (fun q => hN.1 (q ▸ hda)) ho, fun hd => hN.1 ((dom_set_same hm).mp hd), hN.2⟩
  refine ⟨⟨⟨h', tk, rfl⟩, fun b o e hd _ => keep b o (fun q => hd (q ▸ hda)) e, fun b o e => ?_, fun b hb => .inl ((dom_set_same hm).mp hb)⟩, ⟨fun b mo e => ?_, fun x C dx fs e => ?_, fun b hb => g.st.free b ((dom_set_same hm).mp hb)⟩⟩
  · by_cases q : b = a
    · subst q; obtain ⟨n, ho⟩ := hn; exact ⟨_, ho⟩
    · exact ⟨o, keep b o q e⟩
  · unfold Store.set at e
    by_cases hb : b = a
    · rw [if_pos hb] at e
      cases e
      subst hb
      exact ⟨us, hn, RepL.stay st _ _ hr⟩
    · rw [if_neg hb] at e
      refine MRep.stay st (fun b' o hb' ho => keep b' o (fun q => ?_) ho) (g.st.rep b mo e)
      subst q
      rcases hb' with q | ⟨C, fs, rfl⟩
      · exact hb q.symm
      · have := (g.st.apart b C _ fs e).1
        rw [hm] at this; cases this
  · unfold Store.set at e ⊢
    by_cases hx : x = a
    · rw [if_pos hx] at e; cases e
    · rw [if_neg hx] at e
      obtain ⟨h1, h2⟩ := g.st.apart x C dx fs e
      refine ⟨?_, fun y C' fs' e' => ?_⟩
      · rw [if_neg (fun q : dx = a => by subst q; rw [hm] at h1; cases h1)]; exact h1
      · by_cases hy : y = a
        · rw [if_pos hy] at e'; cases e'
        · rw [if_neg hy] at e'; exact h2 y C' fs' e'

theorem app_sound {d e : D} {v u : Value} (g : Good c nm vs env ρ σ P s) (h : appS d e σ Φ) (hr : Rep (nd σ P) s.heap d v) (hu : Rep (nd σ P) s.heap e u)
    (hQ : ∀ v d σ' s', Φ d σ' → Step noF σ σ' s s' → StoreOk σ' P s'.heap → Rep (nd σ' P) s'.heap d v → Q v s') : wpAny c.M A (call (.builtin "list.append") [v, u]) Q E s := by
  unfold appS at h
  split at h
  · rename_i a
    obtain ⟨xs, hm, hn, h⟩ := h
    simp only [Rep] at hr
    subst hr
    obtain ⟨us, hl, hw⟩ := g.st.rep a _ hm
    have el := hw.length
    simp only [Array.length_toList] at el
    refine wpAny_list_append_plain hl (fun h' hl' hs => ?_) (by have := sizeLine_small; omega)
    obtain ⟨st, ok⟩ := upd_mut (tk := s.toks) g hm hs hl' (ys := xs ++ [e]) (by
      have := RepL.append hw (RepL.one hu)
      simpa using this)
    exact hQ _ .none _ _ h st ok rep_none
  · exact h.elim

theorem biS_sound {b : BI} {m : Bool} {ds : List D} {us : List Value} (hh : A.handled = none) (g : Good c nm vs env ρ σ P s) (h : biS b m ds σ Φ) (hr : RepL (nd σ P) s.heap ds us)
    (hQ : ∀ v d σ' s', Φ d σ' → Step noF σ σ' s s' → StoreOk σ' P s'.heap → Rep (nd σ' P) s'.heap d v → Q v s') : wpAny c.M A (call b.val us) Q E s := by
  unfold biS at h
  split at h
  · obtain ⟨xs, e, hn, h⟩ := h
    simp only [RepL] at hr
    obtain ⟨v, r, rfl, hv, rfl⟩ := hr
    obtain ⟨a, ws, rfl, hl, hw⟩ := asL_heap g.st hv e
    have el := hw.length
    simp only [Array.length_toList] at el
    have hsz : ws.size ≤ small := by omega
    have fin : Q (.int ws.size (s.toks + 1)) { s with toks := s.toks + 1 + 1 } := by rw [el]; exact fin_keeps g hQ h (keeps_toks s _) rep_int
    rcases hl with hl | hl
    · exact Calls.call_len_list hl (small_63 hsz) fin
    · exact PyProof.Rows.len_tuple hl (small_63 hsz) fin
  · simp only [RepL, Rep] at hr
    obtain ⟨v, r, rfl, ⟨t, rfl⟩, v', r', rfl, ⟨t', rfl⟩, rfl⟩ := hr
    rename_i x y
    refine min_two_ints hh fun h' tk hk => ?_
    by_cases hc : y < x
    · rw [if_pos hc] at h ⊢
      exact fin_keeps g hQ h ⟨h', tk, rfl, hk⟩ rep_int
    · rw [if_neg hc] at h ⊢
      exact fin_keeps g hQ h ⟨h', tk, rfl, hk⟩ rep_int
  · obtain ⟨xs, e, hn, h⟩ := h
    simp only [RepL] at hr
    obtain ⟨v, r, rfl, hv, rfl⟩ := hr
    obtain ⟨a, ws, rfl, hl, hw⟩ := asL_heap g.st hv e
    have el := hw.length
    simp only [Array.length_toList] at el
    have hsz : ws.size ≤ sizeLine := by have := sizeLine_small; omega
    have fin : ∀ h' c', (∀ b o', s.heap.get? b = some o' → h'.get? b = some o') → h'.get? s.heap.objs.size = some { cls := .type "list", dict := none, data := .seq ws c', slots := #[] } → Q (.ref s.heap.objs.size) { s with heap := h' } :=
      fun h' c' hk hD => fin_list g h hQ ⟨h', s.toks, rfl, hk⟩ (get?_size_none _) (us := ws.toList) ⟨c', by rw [Array.toArray_toList]; exact hD⟩ hw
    rcases hl with ⟨o, ho, hc, n, hd⟩ | ⟨o, ho, hc, n, hd⟩
    · exact call_list_seq (hsz := hsz) a (.inl rfl) ho hc hd fin
    · exact call_list_seq (hsz := hsz) a (.inr rfl) ho hc hd fin
  · obtain ⟨xs, e, hn, h⟩ := h
    simp only [RepL] at hr
    obtain ⟨v, r, rfl, hv, rfl⟩ := hr
    rename_i d
    cases d with
    | list ys =>
      simp only [asL] at e; cases e
      simp only [Rep] at hv
      obtain ⟨a, ws, rfl, hN, hl, hw⟩ := hv
      have el := hw.length
      simp only [Array.length_toList] at el
      refine call_tuple_list hl (fun h' hk => ?_) (by have := sizeLine_small; omega)
      refine fin_tuple g h.2 hQ ⟨_, s.toks, rfl, fun b o e => Heap.get?_push_of_some _ (hk b o e)⟩ ?_ (us := ws.toList) ⟨_, Heap.get?_push_size _ rfl, rfl, 0, by simp⟩ hw
      cases e : s.heap.get? h'.objs.size with
      | none => rfl
      | some o => have := hk _ _ e; rw [get?_size_none] at this; cases this
    | _ => exact h.1.elim
  · obtain ⟨ns, i, e, ht, hi, h⟩ := h
    simp only [RepL] at hr
    obtain ⟨v, r, rfl, hv, rfl⟩ := hr
    obtain ⟨a, us, rfl, hl, hw⟩ := asList_heap g.st hv e ht
    have hl' : s.heap.IsList a us.toList.toArray := by rw [Array.toArray_toList]; exact hl
    exact call_max_1 hh hl' (ints_of_repL hw) hi fun t h' tk hk => fin_keeps g hQ h ⟨h', tk, rfl, hk⟩ rep_int
  · obtain ⟨ns, i, e, ht, hi, h⟩ := h
    simp only [RepL] at hr
    obtain ⟨v, r, rfl, hv, rfl⟩ := hr
    obtain ⟨a, us, rfl, hl, hw⟩ := asList_heap g.st hv e ht
    have hl' : s.heap.IsList a us.toList.toArray := by rw [Array.toArray_toList]; exact hl
    exact call_min_1 hh hl' (ints_of_repL hw) hi fun t h' tk hk => fin_keeps g hQ h ⟨h', tk, rfl, hk⟩ rep_int
  · exact h.elim
end
end Mine

open PySem PyProof.Rows
set_option Elab.async false
namespace Mine

theorem RepL.drop {N : Addr → Prop} {h : Heap} : ∀ {ds : List D} {vs : List Value}, RepL N h ds vs → ∀ n, RepL N h (ds.drop n) (vs.drop n)
  | ds, vs, x, 0 => by simpa using x
  | [], vs, x, n + 1 => by simp only [RepL] at x; subst x; simp [RepL]
  | d :: ds, vs, x, n + 1 => by
    simp only [RepL] at x
    obtain ⟨v, r, rfl, h1, h2⟩ := x
    simpa using RepL.drop h2 n
theorem RepL.take {N : Addr → Prop} {h : Heap} : ∀ {ds : List D} {vs : List Value}, RepL N h ds vs → ∀ n, RepL N h (ds.take n) (vs.take n)
  | ds, vs, x, 0 => by simp [RepL]
  | [], vs, x, n + 1 => by simp only [RepL] at x; subst x; simp [RepL]
  | d :: ds, vs, x, n + 1 => by
    simp only [RepL] at x
    obtain ⟨v, r, rfl, h1, h2⟩ := x
    simpa using RepL.cons h1 (RepL.take h2 n)

section
variable {c : Cx} {A : Around} {nm : Nat → Str} {vs : List Nat} {env : Env} {ρ : PEnv} {σ : Store} {P : Addr → Prop} {s : Shared} {Q : Value → Shared → Prop} {E : Value → Shared → Prop} {Φ : D → Store → Prop}

/-- parts of a slice as values -/
theorem partI_part {o : Option D} {l : Option Int} {v : Value} (e : partI o = some l) (hv : (o = Option.none ∧ v = .none) ∨ ∃ d, o = some d ∧ Rep (nd σ P) s.heap d v) : IsPart v l := by
  rcases hv with ⟨rfl, rfl⟩ | ⟨d, rfl, hr⟩
  · simp only [partI] at e; cases e; exact .none
  · cases d <;> simp only [partI] at e <;> cases e
    simp only [Rep] at hr
    obtain ⟨t, rfl⟩ := hr
    exact .int _ t

theorem slcS_sound {m : Bool} {o : D} {lo hi : Option D} {v l u : Value} {sl : Addr} {value : Expr} {lower upper : Option Expr} {p : Pos} (g : Good c nm vs env ρ σ P s) (h : slcS m o lo hi σ Φ) (ha : Rep (nd σ P) s.heap o v)
    (hl : (lo = Option.none ∧ l = .none) ∨ ∃ d, lo = some d ∧ Rep (nd σ P) s.heap d l) (hu : (hi = Option.none ∧ u = .none) ∨ ∃ d, hi = some d ∧ Rep (nd σ P) s.heap d u) (hsl : s.heap.IsSliceOf sl l u .none)
    (hQ : ∀ v d σ' s', Φ d σ' → Step noF σ σ' s s' → StoreOk σ' P s'.heap → Rep (nd σ' P) s'.heap d v → Q v s') : wpAny c.M A (subscriptTail value (.Slice lower upper Option.none p) v (.ref sl)) Q E s := by
  obtain ⟨xs, x, y, e, ht, e1, e2, hn, h⟩ := h
  obtain ⟨a, us, rfl, hL, hr⟩ := asL_heap g.st ha e
  have el := hr.length
  simp only [Array.length_toList] at el
  have hL' : s.heap.IsList a us := by
    rcases hL with hL | hL
    · exact hL
    · exfalso
      cases o <;> simp only [isTuple, asL] at ht e <;> try cases e
      · cases ht
      · simp only [Rep] at ha
        obtain ⟨a', us', q, _, ⟨o', ho', hc', _⟩, _⟩ := ha
        cases q
        obtain ⟨o, ho, hc, _⟩ := hL
        rw [ho] at ho'; cases ho'; rw [hc] at hc'; exact absurd hc' (by decide)
      · rename_i b
        simp only [Rep] at ha
        cases ha
        cases hb : σ a with
        | none => rw [hb] at e; cases e
        | some mo =>
          rw [hb] at e
          cases mo with
          | mlist ds =>
            obtain ⟨us', ⟨n', ho'⟩, _⟩ := g.st.rep a _ hb
            obtain ⟨o, ho, hc, _⟩ := hL
            rw [ho] at ho'; cases ho'; exact absurd (show Value.type "list" = Value.type "tuple" from hc) (by decide)
          | inst C dx fs => cases e
          | mdict kvs => cases e
  refine tail_any hL'.typeIs slot_list_getitem.lookup (wpAny_getItem_list_slice hL' hsl (partI_part e1 hl) (partI_part e2 hu) .none (by simp) ?_ (by have := sizeLine_small; omega)) (ops := [.ref sl, .ref a]) rfl
  refine fin_list g h hQ (keeps_push' s _) (get?_size_none _) (us := (us.toList.drop (x.elim 0 (clipAt us.size))).take (y.elim us.size (clipAt us.size) - x.elim 0 (clipAt us.size))) ⟨0, ?_⟩ ?_
  · rw [← slicePick_plain]; exact Heap.get?_push_size _ rfl
  · unfold sliceD
    rw [← el]
    exact (hr.drop _).take _
end

/-! ### iteration -/

/-- an iterator at address I over the data ds; ok: what the iterated thing needs -/
structure Turns (c : Cx) (A : Around) (I : Addr) (ds : List D) (ok : Store → (Addr → Prop) → Heap → Prop) (It : Nat → Heap → Prop) : Prop where
  mv : ∀ k h h', It k h → (∀ o, h.get? I = some o → h'.get? I = some o) → It k h'
  alive : ∀ k h, It k h → ∃ o vs, h.get? I = some o ∧ o.data = .fields vs
  item : ∀ k d (s : Shared) σ P (Q : Option Value → Shared → Prop) (E : Value → Shared → Prop), ds[k]? = some d → It k s.heap → ok σ P s.heap →
    (∀ v h' tk, It (k + 1) h' → Heap.SameBut I s.heap h' → Rep (nd σ P) s.heap d v → Q (some v) { s with heap := h', toks := tk }) → wpAny c.M A (pyNext (.ref I)) Q E s
  done : ∀ (s : Shared) σ P (Q : Option Value → Shared → Prop) (E : Value → Shared → Prop), It ds.length s.heap → ok σ P s.heap →
    (∀ h' tk, Heap.ExtBut I s.heap h' → Q Option.none { s with heap := h', toks := tk }) → wpAny c.M A (pyNext (.ref I)) Q E s
  self : ∀ k (s : Shared) σ P (Q : Value → Shared → Prop) (E : Value → Shared → Prop), It k s.heap → ok σ P s.heap → Q (.ref I) s → wpAny c.M A (pyIter (.ref I)) Q E s

def SeqOk (T : String) (ax : Addr) (ds : List D) (σ : Store) (P : Addr → Prop) (h : Heap) : Prop :=
  ∃ us, (if T = "list" then h.IsList ax us else h.IsTuple ax us) ∧ RepL (nd σ P) h ds us.toList

theorem Turns.list {c : Cx} {A : Around} (hh : A.handled = none) (I ax : Addr) (ds : List D) : Turns c A I ds (SeqOk "list" ax ds) (fun k h => h.IsListIter I ax k) where
  mv := fun k h h' x k' => x.at k'
  alive := fun k h x => by
    obtain ⟨o, ho, _, hd⟩ := x
    exact ⟨o, _, ho, hd⟩
  item := fun k d s σ P Q E hd it ok hQ => by
    obtain ⟨us, hl, hr⟩ := ok
    simp only [if_true] at hl
    obtain ⟨x, hx, hrx⟩ := hr.get hd
    exact wpAny_pyNext_list_item it hl (x := x) (by simpa using hx) fun h' hit' hs' => hQ x h' s.toks hit' hs' hrx
  done := fun s σ P Q E it ok hQ => by
    obtain ⟨us, hl, hr⟩ := ok
    simp only [if_true] at hl
    have el := hr.length
    simp only [Array.length_toList] at el
    exact wpAny_pyNext_list_end hh it hl (by rw [← el]; simp) fun h' he => hQ h' s.toks he
  self := fun k s σ P Q E it _ hQ => wpAny_pyIter_listiter it hQ

theorem Turns.tuple {c : Cx} {A : Around} (hh : A.handled = none) (I ax : Addr) (ds : List D) : Turns c A I ds (SeqOk "tuple" ax ds) (fun k h => h.IsTupleIter I ax k) where
  mv := fun k h h' x k' => let ⟨o, ho, r⟩ := x; ⟨o, k' o ho, r⟩
  alive := fun k h x => by
    obtain ⟨o, ho, _, hd⟩ := x
    exact ⟨o, _, ho, hd⟩
  item := fun k d s σ P Q E hd it ok hQ => by
    obtain ⟨us, hl, hr⟩ := ok
    rw [if_neg (by decide)] at hl
    obtain ⟨x, hx, hrx⟩ := hr.get hd
    exact wpAny_pyNext_tuple_item it hl (x := x) (by simpa using hx) fun h' hit' hs' => hQ x h' s.toks hit' hs' hrx
  done := fun s σ P Q E it ok hQ => by
    obtain ⟨us, hl, hr⟩ := ok
    rw [if_neg (by decide)] at hl
    have el := hr.length
    simp only [Array.length_toList] at el
    exact wpAny_pyNext_tuple_end hh it hl (by rw [← el]; simp) fun h' he => hQ h' s.toks he
  self := fun k s σ P Q E it ok hQ => by
    obtain ⟨us, hl, hr⟩ := ok
    rw [if_neg (by decide)] at hl
    refine (Walks.tuple (prog := c.prog) (w := c.w) hh I ax ?_ us).self k s Q E ⟨it, hl⟩ hQ
    intro e
    obtain ⟨o, ho, _, n, hd⟩ := hl
    obtain ⟨o', ho', _, hd'⟩ := it
    rw [e, ho'] at ho; cases ho; rw [hd] at hd'; cases hd'

theorem rangeD_get {n : Int} {k : Nat} {d : D} (h : (rangeD n)[k]? = some d) : d = .int k ∧ (k : Int) < n := by
  unfold rangeD at h
  rw [List.getElem?_map] at h
  cases e : (List.range n.toNat)[k]? with
  | none => rw [e] at h; cases h
  | some j =>
    rw [e] at h
    cases h
    obtain ⟨h1, h2⟩ := List.getElem?_eq_some_iff.mp e
    simp only [List.length_range] at h1
    simp only [List.getElem_range] at h2
    subst h2
    exact ⟨rfl, by omega⟩
theorem rangeD_length (n : Int) : (rangeD n).length = n.toNat := by simp [rangeD]

theorem Turns.range {c : Cx} {A : Around} (hh : A.handled = none) (I : Addr) (n : Int) : Turns c A I (rangeD n) (fun _ _ _ => True) (fun k h => IsRangeIter h I (k : Int) ((n.toNat : Int) - k) 1) where
  mv := fun k h h' x k' => k' _ x
  alive := fun k h x => ⟨_, _, x, rfl⟩
  item := fun k d s σ P Q E hd it _ hQ => by
    obtain ⟨rfl, hk⟩ := rangeD_get hd
    refine wpAny_pyNext_range_item it (by omega) fun h' hit' hs' => hQ _ h' _ ?_ hs' rep_int
    have e1 : ((k + 1 : Nat) : Int) = (k : Int) + 1 := by omega
    have e2 : (n.toNat : Int) - ((k + 1 : Nat) : Int) = (n.toNat : Int) - k - 1 := by omega
    rw [e1]; rw [e1] at e2; rw [e2]; exact hit'
  done := fun s σ P Q E it _ hQ => by
    rw [rangeD_length] at it
    exact wpAny_pyNext_range_end hh it (by omega) fun h' he => hQ h' s.toks he
  self := fun k s σ P Q E it _ hQ => by
    refine (Walks.range (prog := c.prog) (w := c.w) hh I 0 1 n.toNat).self k s Q E ?_ hQ
    show IsRangeIter s.heap I (0 + (k : Nat) * 1) ((n.toNat : Int) - (k : Nat)) 1
    rw [Int.mul_one, Int.zero_add]; exact it
end Mine

open PySem PyProof.Rows
set_option Elab.async false
namespace Mine

def Res.sto : Res → Store
  | .next _ σ => σ
  | .ret _ σ => σ
  | .brk _ σ => σ
  | .cont _ σ => σ

def ResOk (c : Cx) (nm : Nat → Str) (vs : List Nat) (env : Env) (P : Addr → Prop) : Res → Flow → Shared → Prop
  | .next ρ σ, f, s => f = .next ∧ Good c nm vs env ρ σ P s
  | .cont ρ σ, f, s => f = .cont ∧ Good c nm vs env ρ σ P s
  | .brk ρ σ, f, s => f = .brk ∧ Good c nm vs env ρ σ P s
  | .ret d σ, f, s => ∃ v, f = .ret v ∧ StoreOk σ P s.heap ∧ Rep (nd σ P) s.heap d v

def WPs (c : Cx) (A : Around) (nm : Nat → Str) (vs : List Nat) (env : Env) (ρ : PEnv) (σ : Store) (t : Sem Flow) (Φ : Res → Prop) : Prop :=
  ∀ P s, Good c nm vs env ρ σ P s → ∀ (Q : Flow → Shared → Prop) (E : Value → Shared → Prop),
    (∀ f s' r, Φ r → Step (FrA env) σ r.sto s s' → ResOk c nm vs env P r f s' → Q f s') → wpAny c.M A t Q E s

theorem ns_unique {h : Heap} {a : Addr} {m m' : Str → Option Value} (x : h.Ns a m) (y : h.Ns a m') : m = m' := by
  obtain ⟨o, es, ep, ho, hd, _, hf⟩ := x
  obtain ⟨o', es', ep', ho', hd', _, hf'⟩ := y
  rw [ho] at ho'; cases ho'
  rw [hd] at hd'; cases hd'
  funext n
  rw [← hf, ← hf']

section
variable {c : Cx} {A : Around} {nm : Nat → Str} {vs : List Nat} {env : Env} {ρ : PEnv} {σ : Store} {P : Addr → Prop} {s : Shared} {E : Value → Shared → Prop}

/-- the stay of plain data where only frame objects change -/
theorem Good.stay_fr (g : Good c nm vs env ρ σ P s) {h' : Heap} {L : Addr} (hL : FrA env L) (k : ∀ b o, b ≠ L → s.heap.get? b = some o → h'.get? b = some o) : Stay (nd σ P) (nd σ P) s.heap h' := fun a o items n hN ho hd => by
  refine ⟨k a o (fun e => ?_) ho, hN⟩
  obtain ⟨o', ho', hs⟩ := g.fr_alive hL
  rw [← e, ho] at ho'
  cases ho'
  exact hs items n hd

theorem StoreOk.fr (ok : StoreOk σ P s.heap) {h' : Heap} {L : Addr} (st : Stay (nd σ P) (nd σ P) s.heap h') (hL : ¬ dom σ L) (k : ∀ b o, b ≠ L → s.heap.get? b = some o → h'.get? b = some o) : StoreOk σ P h' := by
  refine ⟨fun a mo e => (ok.rep a mo e).stay st fun b o hb ho => k b o (fun q => hL ?_) ho, ok.apart, ok.free⟩
  subst q
  rcases hb with rfl | ⟨C, fs, rfl⟩
  · exact .inl (by rw [e]; exact Option.some_ne_none _)
  · exact .inr ⟨a, C, fs, e⟩

theorem store_sound {x : Nat} {d : D} {v : Value} {Q : Unit → Shared → Prop} (ok : EnvOk nm vs env) (hx : x ∈ vs) (g : Good c nm vs env ρ σ P s) (hr : Rep (nd σ P) s.heap d v)
    (hQ : ∀ s', Step (FrA env) σ σ s s' → Good c nm vs env (ρ.put x d) σ P s' → Q () s') : wpAny c.M A (storeName env (nm x) v) Q E s := by
  -- one object L of the frame changes
  have main : ∀ (L : Addr) (h' : Heap) (tk : Nat), FrA env L → Heap.SameBut L s.heap h' → (∃ m, h'.Ns env.locals m) → (∀ y ca, env.cells.lookup y = some ca → ∃ v, h'.IsCell ca v) →
      (VarIs env h' (nm x) v) → (∀ y u, y ≠ nm x → VarIs env s.heap y u → VarIs env h' y u) → Q () { s with heap := h', toks := tk } := by
    intro L h' tk hL hs hns hcell hv hoth
    have k : ∀ b o, b ≠ L → s.heap.get? b = some o → h'.get? b = some o := fun b o hb e => hs.extBut b o hb e
    have st := g.stay_fr hL k
    have ndL : ¬ dom σ L := fun hd => (g.own L hd).2 hL
    have al : ∀ a o, s.heap.get? a = some o → ∃ o', h'.get? a = some o' := fun a o e => by
      by_cases hb : a = L
      · subst hb
        rcases hL with rfl | ⟨y, hy⟩
        · obtain ⟨m, o', es, ep, ho', _⟩ := hns; exact ⟨o', ho'⟩
        · obtain ⟨w, o', ho', _⟩ := hcell y a hy; exact ⟨o', ho'⟩
      · exact ⟨o, k a o hb e⟩
    refine hQ _ ⟨⟨h', tk, rfl⟩, fun a o e hd hf => k a o (fun q => hf (q ▸ hL)) e, al, fun a h => .inl h⟩ ⟨fun a o e => ?_, hns, hcell, fun i e hi => ?_, g.st.fr st ndL k, g.own, g.fresh, fun a ha => ?_⟩
    · exact k a o (fun q => by rw [q, g.fresh L hL] at e; cases e) (g.base a o e)
    · rcases PEnv.at_put ρ x i d e hi with ⟨rfl, rfl⟩ | ⟨hne, hi'⟩
      · exact ⟨hx, v, hv, Rep.stay st _ _ hr⟩
      · obtain ⟨hm, u, hu, hru⟩ := g.var i e hi'
        exact ⟨hm, u, hoth _ u (fun q => hne (ok.inj i hm x hx q)) hu, Rep.stay st _ _ hru⟩
    · obtain ⟨o, ho⟩ := g.prot a ha
      exact al a o ho
  obtain ⟨m, hn⟩ := g.ns
  rcases ok.kinds x hx with hl | ⟨hl, ca, hca⟩
  · refine wpAny_storeName_local hl hn (fun h' hn' hs' => ?_) (by rw [ok.kind]; rfl)
    refine main env.locals h' _ (.inl rfl) hs' ⟨_, hn'⟩ (fun y cb hy => ?_) (.inl ⟨hl, _, hn', by simp⟩) (fun y u hy hu => ?_)
    · obtain ⟨w, o, ho, hd⟩ := g.cell y cb hy
      refine ⟨w, o, hs'.extBut cb o (fun q => ?_) ho, hd⟩
      obtain ⟨o', es, ep, ho', hd', _⟩ := hn
      rw [q, ho'] at ho; cases ho; rw [hd'] at hd; cases hd
    · rcases hu with ⟨a, m', hn2, hm⟩ | ⟨a, cb, hc, o, ho, hd⟩
      · have := ns_unique hn hn2
        subst this
        exact .inl ⟨a, _, hn', by rw [if_neg hy]; exact hm⟩
      · refine .inr ⟨a, cb, hc, o, hs'.extBut cb o (fun q => ?_) ho, hd⟩
        obtain ⟨o', es, ep, ho', hd', _⟩ := hn
        rw [q, ho'] at ho; cases ho; rw [hd'] at hd; cases hd
  · obtain ⟨v₀, hv₀⟩ := g.cell (nm x) ca hca
    refine wpAny_storeName_cell ok.kind hl hca hv₀ fun h' hc' hs' => ?_
    have hne : env.locals ≠ ca := fun q => by
      obtain ⟨o', es, ep, ho', hd', _⟩ := hn
      obtain ⟨o, ho, hd⟩ := hv₀
      rw [← q, ho'] at ho; cases ho; rw [hd'] at hd; cases hd
    refine main ca h' _ (.inr ⟨_, hca⟩) hs' ⟨m, hn.sameBut hs' hne⟩ (fun y cb hy => ?_) (.inr ⟨hl, ca, hca, hc'⟩) (fun y u hy hu => ?_)
    · by_cases hcb : cb = ca
      · subst hcb; exact ⟨_, hc'⟩
      · obtain ⟨w, o, ho, hd⟩ := g.cell y cb hy
        exact ⟨w, o, hs'.extBut cb o hcb ho, hd⟩
    · rcases hu with ⟨a, m', hn2, hm⟩ | ⟨a, cb, hc, o, ho, hd⟩
      · exact .inl ⟨a, m', hn2.sameBut hs' hne, hm⟩
      · refine .inr ⟨a, cb, hc, o, hs'.extBut cb o (fun q => ?_) ho, hd⟩
        subst q
        exact hy (name_of_addr ok.apart (mem_of_lookup hc) (mem_of_lookup hca))

/-- an object I that is none of ours changes -/
theorem Good.but (g : Good c nm vs env ρ σ P s) {I : Addr} {oI : Obj} {ws : Array Value} (hI : s.heap.get? I = some oI) (hd : oI.data = .fields ws) (hb : c.b.get? I = none) (hP : ¬ P I) {h' : Heap} {tk : Nat}
    (k : ∀ b o, b ≠ I → s.heap.get? b = some o → h'.get? b = some o) : Good c nm vs env ρ σ P { s with heap := h', toks := tk } := by
  have nf : ∀ a, FrA env a → a ≠ I := fun a ha e => by
    subst e
    rcases ha with rfl | ⟨y, hy⟩
    · obtain ⟨m, o', es, ep, ho', hd', _⟩ := g.ns; rw [hI] at ho'; cases ho'; rw [hd] at hd'; cases hd'
    · obtain ⟨w, o', ho', hd'⟩ := g.cell y _ hy; rw [hI] at ho'; cases ho'; rw [hd] at hd'; cases hd'
  have nI : ¬ dom σ I := fun hx => by
    rcases hx with h1 | ⟨y, C, fs, h1⟩
    · cases e : σ I with
      | none => exact h1 e
      | some mo =>
        have := g.st.rep I mo e
        cases mo with
        | mlist ds => obtain ⟨us, ⟨n, ho⟩, _⟩ := this; rw [hI] at ho; cases ho; cases hd
        | inst C dx fs => obtain ⟨n, es, h2, _⟩ := this; rw [hI] at h2; cases h2; cases hd
        | mdict kvs => obtain ⟨n, es, h2, _⟩ := this; rw [hI] at h2; cases h2; cases hd
    · obtain ⟨n, es, _, h2, _⟩ := g.st.rep y _ h1
      rw [hI] at h2; cases h2; cases hd
  have st : Stay (nd σ P) (nd σ P) s.heap h' := fun a o items n hN ho hd' => ⟨k a o (fun e => by subst e; rw [hI] at ho; cases ho; rw [hd] at hd'; cases hd') ho, hN⟩
  refine ⟨fun a o e => k a o (fun q => by subst q; rw [hb] at e; cases e) (g.base a o e), ?_, fun x ca hx => ?_, fun i d e => ?_, g.st.fr st nI k, g.own, g.fresh, fun a ha => ?_⟩
  · obtain ⟨m, hn⟩ := g.ns
    exact ⟨m, hn.at' fun o e => k _ o (nf _ (.inl rfl)) e⟩
  · obtain ⟨v, o, ho, hd'⟩ := g.cell x ca hx
    exact ⟨v, o, k ca o (nf _ (.inr ⟨x, hx⟩)) ho, hd'⟩
  · obtain ⟨hi, v, hv, hr⟩ := g.var i d e
    exact ⟨hi, v, hv.keep (fun a o ha e => k a o (nf a ha) e), Rep.stay st _ _ hr⟩
  · obtain ⟨o, ho⟩ := g.prot a ha
    exact ⟨o, k a o (fun q => hP (q ▸ ha)) ho⟩

theorem Step.but {F : Addr → Prop} {σ σ' : Store} {s₀ s : Shared} (x : Step F σ σ' s₀ s) {I : Addr} (hI : s₀.heap.get? I = none) {h' : Heap} {tk : Nat} (k : ∀ b o, b ≠ I → s.heap.get? b = some o → h'.get? b = some o) :
    Step F σ σ' s₀ { s with heap := h', toks := tk } := by
  refine ⟨?_, fun a o e hd hf => k a o (fun q => by subst q; rw [hI] at e; cases e) (x.keep a o e hd hf), fun a o e => ?_, x.new⟩
  · obtain ⟨h₁, t₁, rfl⟩ := x.same
    exact ⟨h', tk, rfl⟩
  · obtain ⟨o', e'⟩ := x.alive a o e
    exact ⟨o', k a o' (fun q => by subst q; rw [hI] at e; cases e) e'⟩

theorem Good.of_step_fr {ρ' : PEnv} {σ' : Store} {s' : Shared} (g : Good c nm vs env ρ σ P s) (st : Step (FrA env) σ σ' s s') (g' : Good c nm vs env ρ' σ' P s') : Stay (nd σ P) (nd σ' P) s.heap s'.heap := fun a o items n hN ho hd => by
  refine ⟨st.keep a o ho hN.1 (fun hf => ?_), fun h => (st.new a h).elim hN.1 (fun e => by rw [e] at ho; cases ho), hN.2⟩
  obtain ⟨o', ho', hs⟩ := g.fr_alive hf
  rw [ho] at ho'; cases ho'
  exact hs items n hd
end

section
variable {c : Cx} {A : Around} {nm : Nat → Str} {vs : List Nat} {env : Env} {P : Addr → Prop}

theorem for_sound {I : Addr} {ds : List D} {ok : Store → (Addr → Prop) → Heap → Prop} {It : Nat → Heap → Prop} (T : Turns c A I ds ok It) {d : D} {v : Value} {keep : Store → Prop}
    (hok : ∀ (σ : Store) (s : Shared), Rep (nd σ P) s.heap d v → StoreOk σ P s.heap → keep σ → ok σ P s.heap) (eo : EnvOk nm vs env) {x : Nat} {xp : Pos} (hx : x ∈ vs) {body : List Stmt}
    {step : D → PEnv → Store → (Res → Prop) → Prop} (hstep : ∀ e ρ σ Ψ, step e ρ σ Ψ → WPs c A nm vs env (ρ.put x e) σ (execs body env) Ψ)
    {ρ₀ : PEnv} {σ₀ : Store} {s₀ s : Shared} (g₀ : Good c nm vs env ρ₀ σ₀ P s₀) (hI : s₀.heap.get? I = none) (st : Step (FrA env) σ₀ σ₀ s₀ s) (g : Good c nm vs env ρ₀ σ₀ P s) (it : It 0 s.heap) (hd : Rep (nd σ₀ P) s.heap d v) (hk : keep σ₀)
    {Φ : Res → Prop} (hfor : forS step keep ds ρ₀ σ₀ Φ) {R : Result → Shared → Prop} (hR : ∀ f s' r, Φ r → Step (FrA env) σ₀ r.sto s₀ s' → ResOk c nm vs env P r f s' → R (.ok f) s') :
    codeAny c.M A (.forLoop (.Name (nm x) xp) (.ref I) body [] env) R s := by
  have hbI : c.b.get? I = none := by
    cases e : c.b.get? I with
    | none => rfl
    | some o => rw [g₀.base I o e] at hI; cases hI
  have hPI : ¬ P I := fun hp => by obtain ⟨o, ho⟩ := g₀.prot I hp; rw [hI] at ho; cases ho
  refine codeAny_forLoop
    (fun n s' => ∃ k ρ σ, k ≤ ds.length ∧ n = ds.length - k ∧ It k s'.heap ∧ Good c nm vs env ρ σ P s' ∧ Step (FrA env) σ₀ σ s₀ s' ∧ Rep (nd σ P) s'.heap d v ∧ keep σ ∧ forS step keep (ds.drop k) ρ σ Φ)
    ?_ ds.length ⟨0, ρ₀, σ₀, Nat.zero_le _, rfl, it, g, st, hd, hk, hfor⟩
  rintro n s' ⟨k, ρ, σ, hkl, rfl, it', g', st', hd', hk', hf'⟩
  obtain ⟨oI, ws, hoI, hdI⟩ := T.alive k _ it'
  by_cases hlt : k < ds.length
  · have hget : ds[k]? = some ds[k] := List.getElem?_eq_getElem hlt
    have hdrop : ds.drop k = ds[k] :: ds.drop (k + 1) := (List.drop_eq_getElem_cons hlt)
    rw [hdrop] at hf'
    simp only [forS] at hf'
    refine T.item k _ s' σ P _ _ hget it' (hok σ s' hd' g'.st hk') fun u h₁ tk₁ it₁ hs₁ hr₁ => ?_
    have kb : ∀ b o, b ≠ I → s'.heap.get? b = some o → h₁.get? b = some o := fun b o hb e => hs₁.extBut b o hb e
    have g₁ : Good c nm vs env ρ σ P { s' with heap := h₁, toks := tk₁ } := g'.but hoI hdI hbI hPI kb
    have st₁ : Step (FrA env) σ₀ σ s₀ { s' with heap := h₁, toks := tk₁ } := st'.but hI kb
    have stay₁ : Stay (nd σ P) (nd σ P) s'.heap h₁ := fun a o items n hN ho hd2 => ⟨kb a o (fun e => by subst e; rw [hoI] at ho; cases ho; rw [hdI] at hd2; cases hd2) ho, hN⟩
    refine wpAny_assign_Name (store_sound eo hx g₁ (Rep.stay stay₁ _ _ hr₁) fun s₂ st₂ g₂ => ?_)
    have stay₂ := g₁.of_step_fr st₂ g₂
    have it₂ : It (k + 1) s₂.heap := T.mv _ _ _ it₁ fun o e => by
      obtain ⟨oI', ws', hoI', hdI'⟩ := T.alive (k + 1) _ it₁
      refine st₂.keep I o e (fun hdm => ?_) (fun hf => ?_)
      · obtain ⟨o2, ho2⟩ := g₁.st.alive hdm
        rcases hdm with h1 | ⟨y, C, fs, h1⟩
        · cases e2 : σ I with
          | none => exact h1 e2
          | some mo =>
            have := g₁.st.rep I mo e2
            cases mo with
            | mlist ds => obtain ⟨us, ⟨n3, ho3⟩, _⟩ := this; rw [hoI'] at ho3; cases ho3; cases hdI'
            | inst C dx fs => obtain ⟨n3, es, h2, _⟩ := this; rw [hoI'] at h2; cases h2; cases hdI'
            | mdict kvs => obtain ⟨n3, es, h2, _⟩ := this; rw [hoI'] at h2; cases h2; cases hdI'
        · obtain ⟨n3, es, _, h2, _⟩ := g₁.st.rep y _ h1
          rw [hoI'] at h2; cases h2; cases hdI'
      · rcases hf with rfl | ⟨y, hy⟩
        · obtain ⟨m, o', es, ep, ho', hd', _⟩ := g₁.ns; rw [hoI'] at ho'; cases ho'; rw [hdI'] at hd'; cases hd'
        · obtain ⟨w, o', ho', hd'⟩ := g₁.cell y _ hy; rw [hoI'] at ho'; cases ho'; rw [hdI'] at hd'; cases hd'
    refine hstep _ _ _ _ hf' P s₂ g₂ _ _ fun f s₃ r hr st₃ ro => ?_
    have st03 : Step (FrA env) σ₀ r.sto s₀ s₃ := (st₁.trans st₂).trans st₃
    have it₃ : It (k + 1) s₃.heap := T.mv _ _ _ it₂ fun o e => by
      obtain ⟨oI', ws', hoI', hdI'⟩ := T.alive (k + 1) _ it₂
      refine st₃.keep I o e (fun hdm => ?_) (fun hf => ?_)
      · rcases hdm with h1 | ⟨y, C, fs, h1⟩
        · cases e2 : σ I with
          | none => exact h1 e2
          | some mo =>
            have := g₂.st.rep I mo e2
            cases mo with
            | mlist ds => obtain ⟨us, ⟨n3, ho3⟩, _⟩ := this; rw [hoI'] at ho3; cases ho3; cases hdI'
            | inst C dx fs => obtain ⟨n3, es, h2, _⟩ := this; rw [hoI'] at h2; cases h2; cases hdI'
            | mdict kvs => obtain ⟨n3, es, h2, _⟩ := this; rw [hoI'] at h2; cases h2; cases hdI'
        · obtain ⟨n3, es, _, h2, _⟩ := g₂.st.rep y _ h1
          rw [hoI'] at h2; cases h2; cases hdI'
      · rcases hf with rfl | ⟨y, hy⟩
        · obtain ⟨m, o', es, ep, ho', hd', _⟩ := g₂.ns; rw [hoI'] at ho'; cases ho'; rw [hdI'] at hd'; cases hd'
        · obtain ⟨w, o', ho', hd'⟩ := g₂.cell y _ hy; rw [hoI'] at ho'; cases ho'; rw [hdI'] at hd'; cases hd'
    have hd₂ : Rep (nd σ P) s₂.heap d v := Rep.stay stay₂ _ _ (Rep.stay stay₁ _ _ hd')
    cases r with
    | next ρ' σ' =>
      obtain ⟨rfl, g₃⟩ := ro
      exact ⟨ds.length - (k + 1), by omega, k + 1, ρ', σ', hlt, rfl, it₃, g₃, st03, Rep.stay (g₂.of_step_fr st₃ g₃) _ _ hd₂, hr.1, hr.2⟩
    | cont ρ' σ' =>
      obtain ⟨rfl, g₃⟩ := ro
      exact ⟨ds.length - (k + 1), by omega, k + 1, ρ', σ', hlt, rfl, it₃, g₃, st03, Rep.stay (g₂.of_step_fr st₃ g₃) _ _ hd₂, hr.1, hr.2⟩
    | brk ρ' σ' =>
      obtain ⟨rfl, g₃⟩ := ro
      exact hR .next s₃ (.next ρ' σ') hr st03 ⟨rfl, g₃⟩
    | ret d' σ' =>
      obtain ⟨u', rfl, h1, h2⟩ := ro
      exact hR (.ret u') s₃ (.ret d' σ') hr st03 ⟨u', rfl, h1, h2⟩
  · have hke : k = ds.length := by omega
    subst hke
    rw [List.drop_length] at hf'
    simp only [forS] at hf'
    refine T.done s' σ P _ _ it' (hok σ s' hd' g'.st hk') fun h₁ tk₁ he₁ => wpAny_execs_nil ?_
    have kb : ∀ b o, b ≠ I → s'.heap.get? b = some o → h₁.get? b = some o := fun b o hb e => he₁ b o hb e
    exact hR .next _ (.next ρ σ) hf' (st'.but hI kb) ⟨rfl, g'.but hoI hdI hbI hPI kb⟩
end
end Mine

open PySem PyProof.Rows
set_option Elab.async false
namespace Mine

section
variable {c : Cx} {A : Around} {nm : Nat → Str} {vs : List Nat} {env : Env} {ρ : PEnv} {σ : Store} {P : Addr → Prop} {s : Shared} {E : Value → Shared → Prop}

/-- one object I changes that is no top object, no frame object, no store object, and no plain data may lie there -/
theorem Good.change (g : Good c nm vs env ρ σ P s) {I : Addr} (hb : c.b.get? I = none) (hf : ¬ FrA env I) (hdm : ¬ dom σ I) (hN : ∀ o items n, nd σ P I → s.heap.get? I = some o → o.data ≠ .seq items n) {h' : Heap} {tk : Nat}
    (hal : P I → ∃ o, h'.get? I = some o) (k : ∀ b o, b ≠ I → s.heap.get? b = some o → h'.get? b = some o) :
    Good c nm vs env ρ σ P { s with heap := h', toks := tk } ∧ Stay (nd σ P) (nd σ P) s.heap h' := by
  have st : Stay (nd σ P) (nd σ P) s.heap h' := fun a o items n hn ho hd' => ⟨k a o (fun e => by subst e; exact hN o items n hn ho hd') ho, hn⟩
  refine ⟨⟨fun a o e => k a o (fun q => by subst q; rw [hb] at e; cases e) (g.base a o e), ?_, fun x ca hx => ?_, fun i d e => ?_, g.st.fr st hdm k, g.own, g.fresh, fun a ha => ?_⟩, st⟩
  · obtain ⟨m, hn⟩ := g.ns
    exact ⟨m, hn.at' fun o e => k _ o (fun q => hf (.inl q.symm)) e⟩
  · obtain ⟨v, o, ho, hd'⟩ := g.cell x ca hx
    exact ⟨v, o, k ca o (fun q => hf (.inr ⟨x, by rw [← q]; exact hx⟩)) ho, hd'⟩
  · obtain ⟨hi, v, hv, hr⟩ := g.var i d e
    exact ⟨hi, v, hv.keep (fun a o ha e => k a o (fun q => hf (q ▸ ha)) e), Rep.stay st _ _ hr⟩
  · by_cases h : a = I
    · subst h; exact hal ha
    · obtain ⟨o, ho⟩ := g.prot a ha
      exact ⟨o, k a o h ho⟩

theorem not_dom_of_fields (ok : StoreOk σ P s.heap) {I : Addr} {oI : Obj} {ws : Array Value} (hI : s.heap.get? I = some oI) (hd : oI.data = .fields ws) : ¬ dom σ I := fun hx => by
  rcases hx with h1 | ⟨y, C, fs, h1⟩
  · cases e : σ I with
    | none => exact h1 e
    | some mo =>
      have := ok.rep I mo e
      cases mo with
      | mlist ds => obtain ⟨us, ⟨n, ho⟩, _⟩ := this; rw [hI] at ho; cases ho; cases hd
      | inst C dx fs => obtain ⟨n, es, h2, _⟩ := this; rw [hI] at h2; cases h2; cases hd
      | mdict kvs => obtain ⟨n, es, h2, _⟩ := this; rw [hI] at h2; cases h2; cases hd
  · obtain ⟨n, es, _, h2, _⟩ := ok.rep y _ h1
    rw [hI] at h2; cases h2; cases hd

theorem StoreOk.weak {P' : Addr → Prop} {h : Heap} (ok : StoreOk σ P' h) (hp : ∀ a, P a → P' a) : StoreOk σ P h :=
  ⟨fun a mo e => MRep.stay (fun b o items n hN ho _ => ⟨ho, hN.1, fun q => hN.2 (hp b q)⟩) (fun _ _ _ ho => ho) (ok.rep a mo e), ok.apart, fun a ha q => ok.free a ha (hp a q)⟩

/-- a protected list becomes a store object -/
theorem adopt {h : Heap} {P' : Addr → Prop} {a : Addr} {ds : List D} {us : Array Value} (ok : StoreOk σ P' h) (hp : ∀ b, P' b ↔ P b ∨ b = a) (hPa : ¬ P a) (hn : h.PlainList a us) (hr : RepL (nd σ P') h ds us.toList) :
    freshIn σ a ∧ StoreOk (σ.set a (.mlist ds)) P h := by
  have nda : ¬ dom σ a := fun hd => ok.free a hd ((hp a).mpr (.inr rfl))
  have hf : freshIn σ a := ⟨by
    cases e : σ a with
    | none => rfl
    | some m => exact absurd (Or.inl (by rw [e]; exact Option.some_ne_none m)) nda, fun x C fs e => nda (.inr ⟨x, C, fs, e⟩)⟩
  have st : Stay (nd σ P') (nd (σ.set a (.mlist ds)) P) h h := fun b o items n hN ho _ => ⟨ho, fun hd => (dom_set hd).elim hN.1 (fun e => hN.2 ((hp b).mpr (.inr e))), fun q => hN.2 ((hp b).mpr (.inl q))⟩
  refine ⟨hf, ⟨fun b mo e => ?_, fun x C dx fs e => ?_, fun b hb => ?_⟩⟩
  · unfold Store.set at e
    by_cases hb : b = a
    · rw [if_pos hb] at e
      cases e
      subst hb
      exact ⟨us, hn, RepL.stay st _ _ hr⟩
    · rw [if_neg hb] at e
      exact MRep.stay st (fun b' o _ ho => ho) (ok.rep b mo e)
  · unfold Store.set at e ⊢
    by_cases hx : x = a
    · rw [if_pos hx] at e; cases e
    · rw [if_neg hx] at e
      obtain ⟨h1, h2⟩ := ok.apart x C dx fs e
      refine ⟨?_, fun y C' fs' e' => ?_⟩
      · rw [if_neg (fun q : dx = a => hf.2 x C fs (q ▸ e))]; exact h1
      · by_cases hy : y = a
        · rw [if_pos hy] at e'; cases e'
        · rw [if_neg hy] at e'; exact h2 y C' fs' e'
  · rcases dom_set hb with h | h
    · exact fun q => ok.free b h ((hp b).mpr (.inl q))
    · subst h; exact hPa

/-! ### the block of a comprehension -/
def clGo (env : Env) : List (Str × NameKind) → List (Str × Addr) → List (Str × Addr)
  | [], acc => acc
  | (n, k) :: r, acc => if k == .free then clGo env r ((n, (env.cells.lookup n).getD 0) :: acc) else clGo env r acc
def clOf (env : Env) (sc : Scope) : List (Str × Addr) := clGo env sc.names []

theorem closureFor_eq {env : Env} {sc : Scope} (h : ∀ x ∈ sc.names, x.2 = .free → ∃ ca, env.cells.lookup x.1 = some ca) : closureFor sc env = pure (clOf env sc) := by
  unfold closureFor clOf
  suffices H : ∀ (l : List (Str × NameKind)) (acc : List (Str × Addr)), (∀ x ∈ l, x.2 = .free → ∃ ca, env.cells.lookup x.1 = some ca) →
      (forIn l acc fun x (cs : List (Str × Addr)) => (match x with
        | (name, kind) => if (kind == .free) = true then do let y ← cellOf env name; pure (ForInStep.yield ((name, y) :: cs)) else pure (ForInStep.yield cs) : Sem (ForInStep (List (Str × Addr))))) = pure (clGo env l acc) by
    have := H sc.names [] h
    simp only [bind_pure]
    exact this
  intro l
  induction l with
  | nil => intro acc _; rfl
  | cons x r ih =>
    intro acc hl
    obtain ⟨n, k⟩ := x
    have hr : ∀ y ∈ r, y.2 = .free → ∃ ca, env.cells.lookup y.1 = some ca := fun y hy => hl y (List.mem_cons_of_mem _ hy)
    rw [List.forIn_cons]
    by_cases hk : (k == NameKind.free) = true
    · obtain ⟨ca, hca⟩ := hl (n, k) List.mem_cons_self (by simpa using hk)
      simp only [hk, if_true, clGo, cellOf]
      simp only at hca
      rw [hca]
      simp only [pure_bind, Option.getD_some]
      exact ih _ hr
    · have hk' : (k == NameKind.free) = false := by simpa using hk
      simp only [hk', Bool.false_eq_true, if_false, clGo, pure_bind]
      exact ih _ hr

theorem clGo_mem {env : Env} : ∀ (l : List (Str × NameKind)) (acc : List (Str × Addr)) (n : Str) (a : Addr), (n, a) ∈ clGo env l acc → (n, a) ∈ acc ∨ ((n, NameKind.free) ∈ l ∧ a = (env.cells.lookup n).getD 0)
  | [], acc, n, a, h => .inl h
  | (m, k) :: r, acc, n, a, h => by
    unfold clGo at h
    split at h
    · rename_i hk
      have hk' : k = .free := by simpa using hk
      rcases clGo_mem r _ n a h with h1 | ⟨h1, h2⟩
      · rcases List.mem_cons.mp h1 with e | h1
        · cases e; subst hk'; exact .inr ⟨List.mem_cons_self, rfl⟩
        · exact .inl h1
      · exact .inr ⟨List.mem_cons_of_mem _ h1, h2⟩
    · rcases clGo_mem r _ n a h with h1 | ⟨h1, h2⟩
      · exact .inl h1
      · exact .inr ⟨List.mem_cons_of_mem _ h1, h2⟩
theorem clGo_has {env : Env} : ∀ (l : List (Str × NameKind)) (acc : List (Str × Addr)) (n : Str), ((n, NameKind.free) ∈ l ∨ ∃ a, (n, a) ∈ acc) → ∃ a, (n, a) ∈ clGo env l acc
  | [], acc, n, h => h.elim (fun h => by cases h) id
  | (m, k) :: r, acc, n, h => by
    unfold clGo
    split
    · rename_i hk
      refine clGo_has r _ n ?_
      rcases h with h | ⟨a, h⟩
      · rcases List.mem_cons.mp h with e | h
        · cases e; exact .inr ⟨_, List.mem_cons_self⟩
        · exact .inl h
      · exact .inr ⟨a, List.mem_cons_of_mem _ h⟩
    · rename_i hk
      refine clGo_has r _ n ?_
      rcases h with h | ⟨a, h⟩
      · rcases List.mem_cons.mp h with e | h
        · cases e; exact absurd (by rfl) hk
        · exact .inl h
      · exact .inr ⟨a, h⟩
theorem lookup_of_mem {α : Type} : ∀ {l : List (Str × α)} {n : Str} {a : α}, (n, a) ∈ l → ∃ b, l.lookup n = some b
  | (m, c) :: r, n, a, h => by
    rw [List.lookup_cons]
    cases hb : n == m with
    | true => exact ⟨c, rfl⟩
    | false =>
      rcases List.mem_cons.mp h with e | h
      · cases e; simp at hb
      · exact lookup_of_mem h
theorem cl_lookup {env : Env} {sc : Scope} {n : Str} {ca : Addr} (hn : (n, NameKind.free) ∈ sc.names) (hc : env.cells.lookup n = some ca) : (clOf env sc).lookup n = some ca := by
  obtain ⟨a, ha⟩ := clGo_has (env := env) sc.names [] n (.inl hn)
  obtain ⟨b, hb⟩ := lookup_of_mem ha
  have := mem_of_lookup hb
  rcases clGo_mem _ _ _ _ this with h | ⟨_, h⟩
  · cases h
  · unfold clOf; rw [hb, h, hc]; rfl
theorem cl_from {env : Env} {sc : Scope} (hfr : ∀ x ∈ sc.names, x.2 = .free → ∃ ca, env.cells.lookup x.1 = some ca) {n : Str} {ca : Addr} (h : (clOf env sc).lookup n = some ca) : env.cells.lookup n = some ca := by
  rcases clGo_mem _ _ _ _ (mem_of_lookup h) with h | ⟨h1, h2⟩
  · cases h
  · obtain ⟨cb, hcb⟩ := hfr _ h1 rfl
    simp only at hcb
    rw [hcb] at h2 ⊢
    rw [h2]; rfl
theorem cl_apart {env : Env} {sc : Scope} (hfr : ∀ x ∈ sc.names, x.2 = .free → ∃ ca, env.cells.lookup x.1 = some ca) (ha : env.cells.Pairwise fun x y => x.2 ≠ y.2) (hnd : (sc.names.map (·.1)).Nodup) : (clOf env sc).Pairwise fun x y => x.2 ≠ y.2 := by
  suffices H : ∀ (l : List (Str × NameKind)) (acc : List (Str × Addr)), (∀ x ∈ l, x.2 = .free → ∃ ca, env.cells.lookup x.1 = some ca) → (l.map (·.1)).Nodup → (∀ n a, (n, a) ∈ acc → env.cells.lookup n = some a ∧ n ∉ l.map (·.1)) →
      (acc.Pairwise fun x y => x.2 ≠ y.2) → (clGo env l acc).Pairwise fun x y => x.2 ≠ y.2 from H _ _ hfr hnd (fun _ _ h => by cases h) .nil
  intro l
  induction l with
  | nil => intro acc _ _ _ h; exact h
  | cons x r ih =>
    intro acc h1 h2 h3 h4
    obtain ⟨m, k⟩ := x
    have h2' := List.nodup_cons.mp h2
    unfold clGo
    split
    · rename_i hk
      obtain ⟨ca, hca⟩ := h1 (m, k) List.mem_cons_self (by simpa using hk)
      simp only at hca
      rw [hca]
      refine ih _ (fun y hy => h1 y (List.mem_cons_of_mem _ hy)) h2'.2 (fun n a hm => ?_) (List.pairwise_cons.mpr ⟨fun y hy e => ?_, h4⟩)
      · rcases List.mem_cons.mp hm with e | hm
        · cases e; exact ⟨by rw [hca]; rfl, h2'.1⟩
        · exact ⟨(h3 n a hm).1, fun q => (h3 n a hm).2 (List.mem_cons_of_mem _ q)⟩
      · obtain ⟨yn, ya⟩ := y
        have h5 := h3 yn ya hy
        have e' : ca = ya := e
        have := name_of_addr ha (mem_of_lookup hca) (e' ▸ mem_of_lookup h5.1)
        exact h5.2 (by rw [← this]; exact List.mem_cons_self)
    · exact ih _ (fun y hy => h1 y (List.mem_cons_of_mem _ hy)) h2'.2 (fun n a hm => ⟨(h3 n a hm).1, fun q => (h3 n a hm).2 (List.mem_cons_of_mem _ q)⟩) h4

theorem lookup_nodup {α : Type} : ∀ {l : List (Str × α)} {n : Str} {a : α}, (l.map (·.1)).Nodup → (n, a) ∈ l → l.lookup n = some a
  | (m, c) :: r, n, a, hnd, h => by
    rw [List.lookup_cons]
    have hnd' := List.nodup_cons.mp hnd
    rcases List.mem_cons.mp h with e | h1
    · cases e; simp
    · cases hb : n == m with
      | true =>
        have e : n = m := by simpa using hb
        have h2 : n ∈ r.map (·.1) := List.mem_map_of_mem (f := fun x : Str × α => x.1) h1
        rw [e] at h2
        exact absurd h2 hnd'.1
      | false => exact lookup_nodup hnd'.2 h1

/-- the relabelled scope: a free name of a cell is a cell -/
theorem relabel_names {env : Env} {sc : Scope} : ((relabel sc env).names.map (·.1)) = sc.names.map (·.1) := by
  unfold relabel
  simp only [List.map_map]
  congr 1
  funext x
  obtain ⟨n, k⟩ := x
  simp only [Function.comp]
  split <;> rfl
end
end Mine

open PySem PyProof.Rows
set_option Elab.async false
set_option linter.unusedVariables false
namespace Mine

theorem relabel_mem {env : Env} {sc : Scope} {n : Str} {k : NameKind} (h : (n, k) ∈ sc.names) :
    (n, if (k == .free && env.scope.kind == .function && env.kindOf n == some .cell) then NameKind.cell else k) ∈ (relabel sc env).names := by
  unfold relabel
  refine List.mem_map.mpr ⟨(n, k), h, ?_⟩
  simp only
  split <;> rfl
theorem relabel_lookup {env : Env} {sc : Scope} {n : Str} {k : NameKind} (hnd : (sc.names.map (·.1)).Nodup) (h : (n, k) ∈ sc.names) :
    (relabel sc env).names.lookup n = some (if (k == .free && env.scope.kind == .function && env.kindOf n == some .cell) then NameKind.cell else k) :=
  lookup_nodup (by rw [relabel_names]; exact hnd) (relabel_mem h)

/-- what a comprehension's scope must be -/
structure CompOk (nm : Nat → Str) (vs : List Nat) (env : Env) (sc : Scope) (x : Nat) (fr : List Nat) : Prop where
  kind : sc.kind = .function
  nodup : (sc.names.map (·.1)).Nodup
  targ : (nm x, NameKind.local) ∈ sc.names
  frees : ∀ i ∈ fr, i ∈ vs ∧ (nm i, NameKind.free) ∈ sc.names ∧ env.kindOf (nm i) = some .cell
  all : ∀ y ∈ sc.names, y.2 = .free → ∃ i ∈ fr, nm i = y.1
  nocell : ∀ y ∈ sc.names, y.2 ≠ .cell
  dbg : (nm x == ("__debug__" : Str)) = false

section
variable {c : Cx} {A : Around} {nm : Nat → Str} {vs : List Nat} {env : Env} {sc : Scope} {x : Nat} {fr : List Nat}

theorem CompOk.cellsOf (co : CompOk nm vs env sc x fr) (eo : EnvOk nm vs env) : ∀ y ∈ sc.names, y.2 = .free → ∃ ca, env.cells.lookup y.1 = some ca := fun y hy hf => by
  obtain ⟨i, hi, e⟩ := co.all y hy hf
  obtain ⟨hv, _, hk⟩ := co.frees i hi
  rcases eo.kinds i hv with h | ⟨_, ca, hca⟩
  · rw [hk] at h; cases h
  · exact ⟨ca, e ▸ hca⟩

theorem CompOk.envOk (co : CompOk nm vs env sc x fr) (eo : EnvOk nm vs env) (C : Addr) : EnvOk nm (x :: fr) (compEnvC sc (clOf env sc) C env) where
  kind := co.kind
  globals := eo.globals
  builtins := eo.builtins
  inj := fun i hi j hj e => by
    have key : ∀ k ∈ fr, nm x ≠ nm k := fun k hk q => by
      have h1 := lookup_nodup co.nodup co.targ
      have h2 := lookup_nodup co.nodup (co.frees k hk).2.1
      rw [q, h2] at h1; cases h1
    rcases List.mem_cons.mp hi with e1 | h1 <;> rcases List.mem_cons.mp hj with e2 | h2
    · rw [e1, e2]
    · exact absurd (e1 ▸ e) (key j h2)
    · exact absurd (e2 ▸ e.symm) (key i h1)
    · exact eo.inj i (co.frees i h1).1 j (co.frees j h2).1 e
  kinds := fun i hi => by
    rcases List.mem_cons.mp hi with rfl | hi
    · left
      show (relabel sc env).names.lookup (nm i) = some .local
      rw [relabel_lookup co.nodup co.targ]; rfl
    · right
      obtain ⟨hv, hm, hk⟩ := co.frees i hi
      refine ⟨?_, ?_⟩
      · show (relabel sc env).names.lookup (nm i) = some .cell
        rw [relabel_lookup co.nodup hm, eo.kind, hk]; rfl
      · obtain ⟨ca, hca⟩ := co.cellsOf eo _ hm rfl
        exact ⟨ca, cl_lookup hm hca⟩
  dbg := fun i hi => by
    rcases List.mem_cons.mp hi with rfl | hi
    · exact co.dbg
    · exact eo.dbg i (co.frees i hi).1
  apart := cl_apart (co.cellsOf eo) eo.apart co.nodup

theorem onlyGo_at : ∀ (l : List Nat) (k : Nat) (ρ : PEnv) (i : Nat) (d : D), (onlyGo l k ρ).at i = some d → (k + i) ∈ l ∧ ρ.at i = some d
  | l, k, [], i, d, h => by simp [onlyGo, PEnv.at] at h
  | l, k, e :: r, 0, d, h => by
    simp only [onlyGo, PEnv.at] at h
    split at h
    · rename_i hc
      exact ⟨by simpa using hc, by simpa [PEnv.at] using h⟩
    · cases h
  | l, k, e :: r, i + 1, d, h => by
    simp only [onlyGo, PEnv.at] at h
    obtain ⟨h1, h2⟩ := onlyGo_at l (k + 1) r i d h
    exact ⟨by rw [show k + (i + 1) = k + 1 + i by omega]; exact h1, by simpa [PEnv.at] using h2⟩
theorem only_at {ρ : PEnv} {l : List Nat} {i : Nat} {d : D} (h : (ρ.only l).at i = some d) : i ∈ l ∧ ρ.at i = some d := by
  have := onlyGo_at l 0 ρ i d h
  rw [Nat.zero_add] at this
  exact this

/-- the state seen from the comprehension's block -/
theorem Good.block {ρ : PEnv} {σ : Store} {P : Addr → Prop} {s : Shared} (g : Good c nm vs env ρ σ P s) (co : CompOk nm vs env sc x fr) (eo : EnvOk nm vs env) {C : Addr} (hC : ∃ m, s.heap.Ns C m) (hb : c.b.get? C = none) (hd : ¬ dom σ C) :
    Good c nm (x :: fr) (compEnvC sc (clOf env sc) C env) (ρ.only fr) σ P s := by
  refine ⟨g.base, hC, fun y ca hy => g.cell y ca (cl_from (co.cellsOf eo) hy), fun i d e => ?_, g.st, fun a ha => ⟨(g.own a ha).1, fun hf => ?_⟩, fun a hf => ?_, g.prot⟩
  · obtain ⟨hi, hρ⟩ := only_at e
    obtain ⟨_, v, hv, hr⟩ := g.var i d hρ
    obtain ⟨_, hm, hk⟩ := co.frees i hi
    refine ⟨List.mem_cons_of_mem _ hi, v, .inr ?_, hr⟩
    rcases hv with ⟨hk', _⟩ | ⟨_, ca, hca, hcell⟩
    · rw [hk] at hk'; cases hk'
    · refine ⟨?_, ca, cl_lookup hm hca, hcell⟩
      show (relabel sc env).names.lookup (nm i) = some .cell
      rw [relabel_lookup co.nodup hm, eo.kind, hk]; rfl
  · rcases hf with rfl | ⟨y, hy⟩
    · exact hd ha
    · exact (g.own a ha).2 (.inr ⟨y, cl_from (co.cellsOf eo) hy⟩)
  · rcases hf with rfl | ⟨y, hy⟩
    · exact hb
    · exact g.fresh a (.inr ⟨y, cl_from (co.cellsOf eo) hy⟩)
end

/-! ### soundness of a value and a test -/
def SndV (c : Cx) (A : Around) (nm : Nat → Str) (vs : List Nat) (env : Env) (x : VT) (e : Expr) : Prop := ∀ ρ σ Φ, x.v ρ σ Φ → WPv c A nm vs env ρ σ (eval e env) Φ
def SndT (c : Cx) (A : Around) (nm : Nat → Str) (vs : List Nat) (env : Env) (x : VT) (e : Expr) : Prop := ∀ ρ σ Φ, x.t ρ σ Φ → WPb c A nm vs env ρ σ (isTrue e env (eval e env)) Φ
inductive SndL (c : Cx) (A : Around) (nm : Nat → Str) (vs : List Nat) (env : Env) : List VT → List Expr → Prop
  | nil : SndL c A nm vs env [] []
  | cons {x e xs es} : SndV c A nm vs env x e → SndT c A nm vs env x e → SndL c A nm vs env xs es → SndL c A nm vs env (x :: xs) (e :: es)

section
variable {c : Cx} {A : Around} {nm : Nat → Str} {vs : List Nat} {env : Env}

theorem ifs_false (es : List Expr) : (forIn es false fun e r => if r = true then do let ok ← isTrue e env (eval e env); pure (ForInStep.yield ok) else pure (ForInStep.yield r) : Sem Bool) = pure false := by
  induction es with
  | nil => rfl
  | cons e r ih => rw [List.forIn_cons]; simp only [Bool.false_eq_true, if_false, pure_bind]; exact ih

theorem ifs_sound {xs : List VT} {es : List Expr} (h : SndL c A nm vs env xs es) : ∀ ρ σ Φ, ifsT xs ρ σ Φ →
    WPb c A nm vs env ρ σ (forIn es true fun e r => if r = true then do let ok ← isTrue e env (eval e env); pure (ForInStep.yield ok) else pure (ForInStep.yield r)) Φ := by
  induction h with
  | nil => intro ρ σ Φ h P s g Q E hQ; rw [List.forIn_nil]; exact wpAny_pure (hQ true σ s h (Step.refl _ _ _) g.st)
  | cons hv ht _ ih =>
    intro ρ σ Φ h P s g Q E hQ
    rw [List.forIn_cons]
    simp only [ifsT] at h
    simp only [if_true]
    refine wpAny_bind (wpAny_bind (ht ρ σ _ h P s g _ _ fun b σ₁ s₁ hb st₁ ok₁ => wpAny_pure ?_))
    show wpAny c.M A (forIn _ b _) Q E s₁
    cases b with
    | true => exact ih ρ σ₁ Φ (hb.1 rfl) P s₁ (g.next st₁ ok₁) Q E fun b' σ₂ s₂ h₂ st₂ ok₂ => hQ b' σ₂ s₂ h₂ (st₁.trans st₂) ok₂
    | false => rw [ifs_false]; exact wpAny_pure (hQ false σ₁ s₁ (hb.2 rfl) st₁ ok₁)

/-- a store of a local name of the block -/
theorem store_local {ρ : PEnv} {σ : Store} {P : Addr → Prop} {s : Shared} {E : Value → Shared → Prop} {x : Nat} {d : D} {v : Value} {Q : Unit → Shared → Prop} (eo : EnvOk nm vs env) (hx : x ∈ vs) (hl : env.kindOf (nm x) = some .local) (g : Good c nm vs env ρ σ P s) (hr : Rep (nd σ P) s.heap d v)
    (hQ : ∀ h' tk, Heap.SameBut env.locals s.heap h' → Good c nm vs env (ρ.put x d) σ P { s with heap := h', toks := tk } → Stay (nd σ P) (nd σ P) s.heap h' → Q () { s with heap := h', toks := tk }) : wpAny c.M A (storeName env (nm x) v) Q E s := by
  obtain ⟨m, hn⟩ := g.ns
  refine wpAny_storeName_local hl hn (fun h' hn' hs' => ?_) (by rw [eo.kind]; rfl)
  have hL : FrA env env.locals := .inl rfl
  have k : ∀ b o, b ≠ env.locals → s.heap.get? b = some o → h'.get? b = some o := fun b o hb e => hs'.extBut b o hb e
  have st := g.stay_fr hL k
  have ndL : ¬ dom σ env.locals := fun hd => (g.own _ hd).2 hL
  have cb : ∀ (y : Str) (cb : Addr), env.cells.lookup y = some cb → cb ≠ env.locals := fun y cb hy q => by
    obtain ⟨w, o, ho, hd⟩ := g.cell y cb hy
    obtain ⟨o', es, ep, ho', hd', _⟩ := hn
    rw [q, ho'] at ho; cases ho; rw [hd'] at hd; cases hd
  refine hQ h' _ hs' ⟨fun a o e => k a o (fun q => by rw [q, g.fresh _ hL] at e; cases e) (g.base a o e), ⟨_, hn'⟩, fun y ca hy => ?_, fun i e hi => ?_, g.st.fr st ndL k, g.own, g.fresh, fun a ha => ?_⟩ st
  · obtain ⟨w, o, ho, hd⟩ := g.cell y ca hy
    exact ⟨w, o, k ca o (cb y ca hy) ho, hd⟩
  · rcases PEnv.at_put ρ x i d e hi with ⟨rfl, rfl⟩ | ⟨hne, hi'⟩
    · exact ⟨hx, v, .inl ⟨hl, _, hn', by simp⟩, Rep.stay st _ _ hr⟩
    · obtain ⟨hm, u, hu, hru⟩ := g.var i e hi'
      refine ⟨hm, u, ?_, Rep.stay st _ _ hru⟩
      rcases hu with ⟨a, m', hn2, hm2⟩ | ⟨a, ca, hc, o, ho, hd⟩
      · have := ns_unique hn hn2
        subst this
        exact .inl ⟨a, _, hn', by rw [if_neg (fun q => hne (eo.inj i hm x hx q))]; exact hm2⟩
      · exact .inr ⟨a, ca, hc, o, k ca o (cb _ ca hc) ho, hd⟩
  · obtain ⟨o, ho⟩ := g.prot a ha
    by_cases hb : a = env.locals
    · subst hb; obtain ⟨o', es, ep, ho', _⟩ := hn'; exact ⟨o', ho'⟩
    · exact ⟨o, k a o hb ho⟩
end
end Mine

open PySem PyProof.Rows
set_option Elab.async false
set_option linter.unusedVariables false
namespace Mine
section
variable {c : Cx} {A : Around} {nm : Nat → Str} {vs : List Nat} {env : Env} {sc : Scope} {x : Nat} {fr : List Nat}

/-- the loop of a comprehension; s₀: ahead of the iterator -/
theorem comp_loop {P : Addr → Prop} {I : Addr} {ds : List D} {ok : Store → (Addr → Prop) → Heap → Prop} {It : Nat → Heap → Prop} (T : Turns c A I ds ok It) {d : D} {v : Value} {keep : Store → Prop}
    (hok : ∀ (σ : Store) (P : Addr → Prop) (s : Shared), Rep (nd σ P) s.heap d v → StoreOk σ P s.heap → keep σ → ok σ P s.heap)
    (co : CompOk nm vs env sc x fr) (eo : EnvOk nm vs env) {C Dl : Addr} {xp pos : Pos} {iter elt : Expr} {ifs : List Expr} {vt : VT} {vts : List VT}
    (helt : SndV c A nm (x :: fr) (compEnvC sc (clOf env sc) C env) vt elt) (hifs : SndL c A nm (x :: fr) (compEnvC sc (clOf env sc) C env) vts ifs)
    {ρ : PEnv} {σ₀ : Store} {s₀ s : Shared} (g₀ : Good c nm vs env ρ σ₀ P s₀) (hI : s₀.heap.get? I = none) (hC : s₀.heap.get? C = none) (hD : s₀.heap.get? Dl = none) (hDC : Dl ≠ C) (hDI : Dl ≠ I) (hCI : C ≠ I)
    (hk0 : ∀ b o, s₀.heap.get? b = some o → s.heap.get? b = some o) (hsame : ∃ h' tk, s = { s₀ with heap := h', toks := tk }) (it : It 0 s.heap) (hnsC : ∃ m, s.heap.Ns C m) (hacc : s.heap.PlainList Dl #[])
    (hd : Rep (nd σ₀ P) s₀.heap d v) (hk : keep σ₀) (hsz : ds.length ≤ small) {Ψ : List D → Store → Prop}
    (hcomp : compS (fun e σ' K => ifsT vts ((ρ.only fr).put x e) σ' fun b σ'' => (b = true → vt.v ((ρ.only fr).put x e) σ'' fun r σ₃ => K (some r) σ₃) ∧ (b = false → K Option.none σ'')) keep ds σ₀ [] Ψ)
    {R : Result → Shared → Prop}
    (hR : ∀ s' us out σ', Ψ out σ' → ¬ dom σ' C → (∃ m, s'.heap.Ns C m) → s'.heap.PlainList Dl us → RepL (nd σ' fun a => P a ∨ a = Dl) s'.heap out us.toList → StoreOk σ' (fun a => P a ∨ a = Dl) s'.heap → Step noF σ₀ σ' s₀ s' → R (.ok .next) s') :
    codeAny c.M A (.compLoop (.ListComp elt [⟨.Name (nm x) xp, iter, ifs, 0⟩] sc pos) 0 (.ref I) (.ref Dl) (compEnvC sc (clOf env sc) C env)) R s := by
  have nob : ∀ a, s₀.heap.get? a = none → c.b.get? a = none := fun a ha => by
    cases e : c.b.get? a with
    | none => rfl
    | some o => rw [g₀.base a o e] at ha; cases ha
  have nod : ∀ a, s₀.heap.get? a = none → ¬ dom σ₀ a := fun a ha hx => by obtain ⟨o, ho⟩ := g₀.st.alive hx; rw [ha] at ho; cases ho
  have nop : ∀ a, s₀.heap.get? a = none → ¬ P a := fun a ha hx => by obtain ⟨o, ho⟩ := g₀.prot a hx; rw [ha] at ho; cases ho
  have nof : ∀ a, s₀.heap.get? a = none → ¬ FrA env a := fun a ha hx => by obtain ⟨o, ho, _⟩ := g₀.fr_alive hx; rw [ha] at ho; cases ho
  have nofc : ∀ a, s₀.heap.get? a = none → a ≠ C → ¬ FrA (compEnvC sc (clOf env sc) C env) a := fun a ha hne hx => by
    rcases hx with rfl | ⟨y, hy⟩
    · exact hne rfl
    · exact nof a ha (.inr ⟨y, cl_from (co.cellsOf eo) hy⟩)
  have eoc := co.envOk eo C
  -- the state at the start, with the accumulator protected
  have gs : Good c nm vs env ρ σ₀ P s := by
    refine g₀.next (Step.of_keeps ?_) (g₀.st.keeps hk0)
    obtain ⟨h', tk, rfl⟩ := hsame
    exact ⟨h', tk, rfl, hk0⟩
  have stay0 : Stay (nd σ₀ P) (nd σ₀ fun a => P a ∨ a = Dl) s₀.heap s.heap := fun a o items n hN ho _ => ⟨hk0 a o ho, hN.1, fun q => q.elim hN.2 (fun e => by subst e; rw [hD] at ho; cases ho)⟩
  have gp : Good c nm vs env ρ σ₀ (fun a => P a ∨ a = Dl) s := by
    refine ⟨gs.base, gs.ns, gs.cell, fun i e hi => ?_, ⟨fun a mo e => ?_, gs.st.apart, fun a ha q => q.elim (gs.st.free a ha) (fun e => nod _ hD (e ▸ ha))⟩, gs.own, gs.fresh, fun a ha => ?_⟩
    · obtain ⟨h1, u, hu, hru⟩ := g₀.var i e hi
      refine ⟨h1, u, hu.keep fun a o _ ho => hk0 a o ho, Rep.stay stay0 _ _ hru⟩
    · exact MRep.stay stay0 (fun b o _ ho => hk0 b o ho) (g₀.st.rep a mo e)
    · rcases ha with h | rfl
      · exact gs.prot a h
      · obtain ⟨n, ho⟩ := hacc; exact ⟨_, ho⟩
  have gb : Good c nm (x :: fr) (compEnvC sc (clOf env sc) C env) (ρ.only fr) σ₀ (fun a => P a ∨ a = Dl) s := gp.block co eo hnsC (nob C hC) (nod C hC)
  have st0 : Step noF σ₀ σ₀ s₀ s := Step.of_keeps (by obtain ⟨h', tk, rfl⟩ := hsame; exact ⟨h', tk, rfl, hk0⟩)
  refine codeAny_compLoop_tests
    (fun n s' => ∃ k σ acc us, k ≤ ds.length ∧ n = ds.length - k ∧ It k s'.heap ∧ Good c nm (x :: fr) (compEnvC sc (clOf env sc) C env) (ρ.only fr) σ (fun a => P a ∨ a = Dl) s' ∧ Step noF σ₀ σ s₀ s' ∧
      Rep (nd σ fun a => P a ∨ a = Dl) s'.heap d v ∧ keep σ ∧ s'.heap.PlainList Dl us ∧ RepL (nd σ fun a => P a ∨ a = Dl) s'.heap acc us.toList ∧ acc.length ≤ k ∧
      compS (fun e σ' K => ifsT vts ((ρ.only fr).put x e) σ' fun b σ'' => (b = true → vt.v ((ρ.only fr).put x e) σ'' fun r σ₃ => K (some r) σ₃) ∧ (b = false → K Option.none σ'')) keep (ds.drop k) σ acc Ψ)
    ?_ ds.length ⟨0, σ₀, [], #[], Nat.zero_le _, rfl, it, gb, st0, Rep.stay stay0 _ _ hd, hk, hacc, by simp [RepL], Nat.le_refl _, hcomp⟩
  rintro n s' ⟨k, σ, acc, us, hkl, rfl, it', g', st', hd', hk', hl', hr', hal', hc'⟩
  obtain ⟨oI, ws, hoI, hdI⟩ := T.alive k _ it'
  have fresh0 : ∀ a, s₀.heap.get? a = none → ∀ σ s', Step noF σ₀ σ s₀ s' → True := fun _ _ _ _ _ => trivial
  by_cases hlt : k < ds.length
  · have hget : ds[k]? = some ds[k] := List.getElem?_eq_getElem hlt
    have hdrop : ds.drop k = ds[k] :: ds.drop (k + 1) := List.drop_eq_getElem_cons hlt
    rw [hdrop] at hc'
    simp only [compS] at hc'
    refine T.item k _ s' σ _ _ _ hget it' (hok σ _ s' hd' g'.st hk') fun u h₁ tk₁ it₁ hs₁ hr₁ => ?_
    have kb : ∀ b o, b ≠ I → s'.heap.get? b = some o → h₁.get? b = some o := fun b o hb e => hs₁.extBut b o hb e
    obtain ⟨g₁, stay₁⟩ := g'.change (nob I hI) (nofc I hI hCI.symm) (not_dom_of_fields g'.st hoI hdI) (fun o items n _ ho => by rw [hoI] at ho; cases ho; rw [hdI]; exact fun e => by cases e) (tk := tk₁)
      (fun q => (q.elim (nop I hI) (fun e => hDI e.symm)).elim) kb
    have st₁ : Step noF σ₀ σ s₀ { s' with heap := h₁, toks := tk₁ } := st'.but hI kb
    have hl₁ : h₁.PlainList Dl us := hl'.at fun o e => kb Dl o hDI e
    refine wpAny_assign_Name (store_local eoc List.mem_cons_self (by
      show (relabel sc env).names.lookup (nm x) = some .local
      rw [relabel_lookup co.nodup co.targ]; rfl) g₁ (Rep.stay stay₁ _ _ hr₁) fun h₂ tk₂ hs₂ g₂ stay₂ => ?_)
    have kc : ∀ b o, b ≠ C → h₁.get? b = some o → h₂.get? b = some o := fun b o hb e => hs₂.extBut b o hb e
    have st₂ : Step noF σ₀ σ s₀ { s' with heap := h₂, toks := tk₂ } := st₁.but hC kc
    have it₂ : It (k + 1) h₂ := T.mv _ _ _ it₁ fun o e => kc I o hCI.symm e
    have hl₂ : h₂.PlainList Dl us := hl₁.at fun o e => kc Dl o hDC e
    have hr₂ : RepL (nd σ fun a => P a ∨ a = Dl) h₂ acc us.toList := RepL.stay stay₂ _ _ (RepL.stay stay₁ _ _ hr')
    have hd₂ : Rep (nd σ fun a => P a ∨ a = Dl) h₂ d v := Rep.stay stay₂ _ _ (Rep.stay stay₁ _ _ hd')
    -- what stays for the objects of the loop under a step of the block
    have keepI : ∀ (σa σb : Store) (sa sb : Shared) (ρa : PEnv) (j : Nat), Good c nm (x :: fr) (compEnvC sc (clOf env sc) C env) ρa σa (fun a => P a ∨ a = Dl) sa → Step noF σa σb sa sb → It j sa.heap → It j sb.heap := fun σa σb sa sb ρa j ga st i => by
      obtain ⟨o, w, ho, hd⟩ := T.alive j _ i
      exact T.mv _ _ _ i fun o' e => st.keep I o' e (not_dom_of_fields ga.st ho hd) (fun h => h)
    have keepD : ∀ (σa σb : Store) (sa sb : Shared) (ρa : PEnv) (ws : Array Value), Good c nm (x :: fr) (compEnvC sc (clOf env sc) C env) ρa σa (fun a => P a ∨ a = Dl) sa → Step noF σa σb sa sb → sa.heap.PlainList Dl ws → sb.heap.PlainList Dl ws := fun σa σb sa sb ρa ws ga st hl => by
      exact hl.at fun o ho => st.keep Dl o ho (fun hd => ga.st.free Dl hd (.inr rfl)) (fun h => h)
    refine ifs_sound hifs _ _ _ hc' _ _ g₂ _ _ fun b σ₃ s₃ hb st₃ ok₃ => ?_
    have g₃ := g₂.next st₃ ok₃
    have it₃ := keepI _ _ _ _ _ _ g₂ st₃ it₂
    have hl₃ := keepD _ _ _ _ _ _ g₂ st₃ hl₂
    have hr₃ := RepL.stay (st₃.stay _) _ _ hr₂
    have hd₃ := Rep.stay (st₃.stay _) _ _ hd₂
    have st03 := st₂.trans st₃
    -- back to the block without the target
    have drop : ∀ {ρ' : PEnv} {σ' : Store} {s'' : Shared}, Good c nm (x :: fr) (compEnvC sc (clOf env sc) C env) ((ρ.only fr).put x ds[k]) σ' (fun a => P a ∨ a = Dl) s'' → Good c nm (x :: fr) (compEnvC sc (clOf env sc) C env) (ρ.only fr) σ' (fun a => P a ∨ a = Dl) s'' := fun {ρ' σ' s''} ga =>
      ⟨ga.base, ga.ns, ga.cell, fun i e hi => by
        obtain ⟨hif, hρ⟩ := only_at hi
        have hne : i ≠ x := fun q => by
          subst q
          have h1 := lookup_nodup co.nodup co.targ
          have h2 := lookup_nodup co.nodup (co.frees i hif).2.1
          rw [h2] at h1; cases h1
        refine ga.var i e ?_
        have key : ∀ (r : PEnv) (a b : Nat) (z : D), b ≠ a → (r.put a z).at b = r.at b := by
          intro r
          induction r with
          | nil => intro a b z _; rfl
          | cons y r ih =>
            intro a b z hne
            cases a with
            | zero => cases b with
              | zero => exact absurd rfl hne
              | succ b => rfl
            | succ a => cases b with
              | zero => rfl
              | succ b => simp only [PEnv.put, PEnv.at]; exact ih a b z (by omega)
        rw [key _ _ _ _ hne]; exact hi, ga.st, ga.own, ga.fresh, ga.prot⟩
    cases b with
    | false =>
      simp only [Bool.false_eq_true, if_false]
      have := hb.2 rfl
      simp only [Option.toList_none, List.append_nil] at this
      exact ⟨ds.length - (k + 1), by omega, k + 1, σ₃, acc, us, hlt, rfl, it₃, drop (ρ' := ρ) g₃, st03, hd₃, this.1, hl₃, hr₃, by omega, this.2⟩
    | true =>
      simp only [if_true]
      refine helt _ _ _ (hb.1 rfl) _ _ g₃ _ _ fun y dy σ₄ s₄ hK st₄ ok₄ ry => ?_
      have g₄ := g₃.next st₄ ok₄
      have it₄ := keepI _ _ _ _ _ _ g₃ st₄ it₃
      have hl₄ := keepD _ _ _ _ _ _ g₃ st₄ hl₃
      have hr₄ := RepL.stay (st₄.stay _) _ _ hr₃
      have hd₄ := Rep.stay (st₄.stay _) _ _ hd₃
      have st04 := st03.trans st₄
      have el := hr₄.length
      simp only [Array.length_toList] at el
      refine wpAny_list_append_plain hl₄ (fun h₅ hl₅ hs₅ => ?_) (by have := sizeLine_small; omega)
      have kd : ∀ b o, b ≠ Dl → s₄.heap.get? b = some o → h₅.get? b = some o := fun b o hb e => hs₅.extBut b o hb e
      obtain ⟨g₅, stay₅⟩ := g₄.change (nob Dl hD) (nofc Dl hD hDC) (fun hd => g₄.st.free Dl hd (.inr rfl)) (fun o items n hn => absurd (Or.inr rfl) hn.2) (tk := s₄.toks)
        (fun _ => let ⟨_, ho⟩ := hl₅; ⟨_, ho⟩) kd
      have st05 : Step noF σ₀ σ₄ s₀ { s₄ with heap := h₅ } := st04.but hD kd
      obtain ⟨oI', ws', hoI', hdI'⟩ := T.alive (k + 1) _ it₄
      refine ⟨ds.length - (k + 1), by omega, k + 1, σ₄, acc ++ [dy], us.push y, hlt, rfl, T.mv _ _ _ it₄ fun o e => kd I o hDI.symm e, drop (ρ' := ρ) g₅, st05, Rep.stay stay₅ _ _ hd₄, hK.1, hl₅, ?_, by rw [List.length_append, List.length_singleton]; omega, by simpa using hK.2⟩
      have := RepL.append (RepL.stay stay₅ _ _ hr₄) (RepL.one (Rep.stay stay₅ _ _ ry))
      simpa using this
  · have hke : k = ds.length := by omega
    subst hke
    rw [List.drop_length] at hc'
    simp only [compS] at hc'
    refine T.done s' σ _ _ _ it' (hok σ _ s' hd' g'.st hk') fun h₁ tk₁ he₁ => ?_
    have kb : ∀ b o, b ≠ I → s'.heap.get? b = some o → h₁.get? b = some o := fun b o hb e => he₁ b o hb e
    obtain ⟨g₁, stay₁⟩ := g'.change (nob I hI) (nofc I hI hCI.symm) (not_dom_of_fields g'.st hoI hdI) (fun o items n _ ho => by rw [hoI] at ho; cases ho; rw [hdI]; exact fun e => by cases e) (tk := tk₁)
      (fun q => (q.elim (nop I hI) (fun e => hDI e.symm)).elim) kb
    exact hR _ us acc σ hc' (fun hx => (g₁.own C hx).2 (.inl rfl)) g₁.ns (hl'.at fun o e => kb Dl o hDI e) (RepL.stay stay₁ _ _ hr') g₁.st (st'.but hI kb)
end
end Mine

open PySem PyProof.Rows
set_option Elab.async false
set_option linter.unusedVariables false
namespace Mine

theorem ne_of_lt_succ {b n m : Nat} (h : b < n) (e : m = n + 1) : b ≠ m := by omega

/-- what pyIter does at a value that stands for the items ds -/
def ItV (c : Cx) (A : Around) (d : D) (ds : List D) (σ : Store) (P : Addr → Prop) (xv : Value) (s : Shared) : Prop :=
  ∃ v, Rep (nd σ P) s.heap d v ∧ keepS d ds σ ∧ ∀ (Q : Value → Shared → Prop) (E : Value → Shared → Prop),
    (∀ I ok It s₂, s.heap.get? I = none → Keeps s s₂ → Turns c A I ds ok It → It 0 s₂.heap → (∀ (σ' : Store) (P' : Addr → Prop) (s' : Shared), Rep (nd σ' P') s'.heap d v → StoreOk σ' P' s'.heap → keepS d ds σ' → ok σ' P' s'.heap) → Q (.ref I) s₂) → wpAny c.M A (pyIter xv) Q E s

def SndI (c : Cx) (A : Around) (nm : Nat → Str) (vs : List Nat) (env : Env) (tr : PEnv → Store → (D → List D → Store → Prop) → Prop) (e : Expr) : Prop :=
  ∀ ρ σ Φ, tr ρ σ Φ → ∀ P s, Good c nm vs env ρ σ P s → ∀ (Q : Value → Shared → Prop) (E : Value → Shared → Prop),
    (∀ xv d ds σ' s', Φ d ds σ' → Step noF σ σ' s s' → StoreOk σ' P s'.heap → ItV c A d ds σ' P xv s' → Q xv s') → wpAny c.M A (eval e env) Q E s

section
variable {c : Cx} {A : Around} {nm : Nat → Str} {vs : List Nat} {env : Env}

theorem itv_seq {σ : Store} {P : Addr → Prop} {s : Shared} {d : D} {ds : List D} {v : Value} (hh : A.handled = none) (ok : StoreOk σ P s.heap) (hr : Rep (nd σ P) s.heap d v) (e : asL σ d = some ds) : ItV c A d ds σ P v s := by
  cases d <;> simp only [asL] at e <;> try cases e
  · -- tuple
    have hr' := hr
    simp only [Rep] at hr
    obtain ⟨a, us, rfl, _, hl, hw⟩ := hr
    refine ⟨_, hr', trivial, fun Q E hQ => wpAny_pyIter_tuple hl (hQ s.heap.objs.size _ _ _ (get?_size_none _) (keeps_push' s _) (Turns.tuple hh _ a ds) ⟨_, Heap.get?_push_size _ rfl, rfl, rfl⟩ fun σ' P' s' hr2 ok2 _ => ?_)⟩
    simp only [Rep] at hr2
    obtain ⟨a', us', q, _, hl', hw'⟩ := hr2
    cases q
    exact ⟨us', by rw [if_neg (by decide)]; exact hl', hw'⟩
  · -- list
    have hr' := hr
    simp only [Rep] at hr
    obtain ⟨a, us, rfl, _, hl, hw⟩ := hr
    refine ⟨_, hr', trivial, fun Q E hQ => wpAny_pyIter_list hl (hQ s.heap.objs.size _ _ _ (get?_size_none _) (keeps_push' s _) (Turns.list hh _ a ds) ⟨_, Heap.get?_push_size _ rfl, rfl, rfl⟩ fun σ' P' s' hr2 ok2 _ => ?_)⟩
    simp only [Rep] at hr2
    obtain ⟨a', us', q, _, hl', hw'⟩ := hr2
    cases q
    exact ⟨us', by rw [if_pos rfl]; exact hl', hw'⟩
  · rename_i a
    have hr' := hr
    simp only [Rep] at hr
    subst hr
    cases h : σ a with
    | none => rw [h] at e; cases e
    | some mo =>
      rw [h] at e
      cases mo with
      | mlist xs =>
        cases e
        obtain ⟨us, hl, hw⟩ := ok.rep a _ h
        refine ⟨_, hr', h, fun Q E hQ => wpAny_pyIter_list hl.isList (hQ s.heap.objs.size _ _ _ (get?_size_none _) (keeps_push' s _) (Turns.list hh _ a ds) ⟨_, Heap.get?_push_size _ rfl, rfl, rfl⟩ fun σ' P' s' hr2 ok2 hk2 => ?_)⟩
        obtain ⟨us', hl', hw'⟩ := ok2.rep a _ hk2
        exact ⟨us', by rw [if_pos rfl]; exact hl'.isList, hw'⟩
      | inst C dx fs => cases e
      | mdict kvs => cases e

theorem itv_range {σ : Store} {P : Addr → Prop} {s : Shared} {r : Addr} {n : Int} {t u w : Tok} (hh : A.handled = none) (hr : IsRange s.heap r 0 n 1 t u w) (h1 : n ≤ small) (h2 : -small ≤ n) : ItV c A .none (rangeD n) σ P (.ref r) s := by
  unfold small at h1 h2
  refine ⟨.none, rep_none, trivial, fun Q E hQ => wpAny_pyIter_range hr (small_one (by omega) (by omega) (by omega) (by omega)) (hQ s.heap.objs.size _ _ _ (get?_size_none _) (keeps_push' s _) (Turns.range hh _ n) ?_ fun _ _ _ _ _ _ => trivial)⟩
  show IsRangeIter _ _ ((0 : Nat) : Int) ((n.toNat : Int) - ((0 : Nat) : Int)) 1
  have e : Builtin.Range.rangeSize 0 n 1 = (n.toNat : Int) - ((0 : Nat) : Int) := by rw [rangeSize_one]; split <;> omega
  rw [← e]
  exact Heap.get?_push_size _ rfl

/-- the block of a comprehension behind the iterator -/
theorem comp_block {P : Addr → Prop} {sc : Scope} {x : Nat} {fr : List Nat} {I : Addr} {ds : List D} {ok : Store → (Addr → Prop) → Heap → Prop} {It : Nat → Heap → Prop} (T : Turns c A I ds ok It) {d : D} {v : Value} {keep : Store → Prop}
    (hok : ∀ (σ : Store) (P : Addr → Prop) (s : Shared), Rep (nd σ P) s.heap d v → StoreOk σ P s.heap → keep σ → ok σ P s.heap)
    (co : CompOk nm vs env sc x fr) (eo : EnvOk nm vs env) {xp pos : Pos} {iter elt : Expr} {ifs : List Expr} {vt : VT} {vts : List VT}
    (helt : ∀ C, SndV c A nm (x :: fr) (compEnvC sc (clOf env sc) C env) vt elt) (hifs : ∀ C, SndL c A nm (x :: fr) (compEnvC sc (clOf env sc) C env) vts ifs)
    {ρ : PEnv} {σ₀ : Store} {s₀ s : Shared} (g₀ : Good c nm vs env ρ σ₀ P s₀) (hI : s₀.heap.get? I = none) (kp : Keeps s₀ s) (it : It 0 s.heap) (hd : Rep (nd σ₀ P) s₀.heap d v) (hk : keep σ₀) (hsz : ds.length ≤ small) {Ψ : List D → Store → Prop}
    (hcomp : compS (fun e σ' K => ifsT vts ((ρ.only fr).put x e) σ' fun b σ'' => (b = true → vt.v ((ρ.only fr).put x e) σ'' fun r σ₃ => K (some r) σ₃) ∧ (b = false → K Option.none σ'')) keep ds σ₀ [] Ψ)
    {RR : Value → Addr → Result → Shared → Prop} {E : Value → Shared → Prop}
    (hR : ∀ Dl C s' us out σ', s₀.heap.get? Dl = none → s₀.heap.get? C = none → Dl ≠ C → Ψ out σ' → ¬ dom σ' C → (∃ m, s'.heap.Ns C m) → s'.heap.PlainList Dl us → RepL (nd σ' fun a => P a ∨ a = Dl) s'.heap out us.toList → StoreOk σ' (fun a => P a ∨ a = Dl) s'.heap → Step noF σ₀ σ' s₀ s' →
      RR (.ref Dl) C (.ok .next) s') :
    wpAny c.M A (newList []) (fun acc s₃ => wpAny c.M A (newFunctionEnv sc env.globals (clOf env sc) [] env.qual Option.none .none (some env)) (fun cenv s₄ =>
      codeAny c.M A (.compStart (.ListComp elt [⟨.Name (nm x) xp, iter, ifs, 0⟩] sc pos) 0 (.ref I) acc { cenv with scope := relabel sc env }) (RR acc cenv.locals) s₄) E s₃) E s := by
  obtain ⟨h₂, tk₂, rfl, hk2⟩ := kp
  obtain ⟨oI, ws, hoI, _⟩ := T.alive 0 _ it
  refine wpAny_newObj_type (wpAny_newFunctionEnv co.nocell (by intro y hy; simp at hy) (fun h₁ hns₁ hsb₁ => ?_) co.kind)
  dsimp only at hns₁ hsb₁ hoI it ⊢
  generalize hH2 : h₂.push { cls := .type "list", dict := Option.none, data := .seq ([] : List Value).toArray } = H2 at hns₁ hsb₁ ⊢
  have hC : H2.objs.size = h₂.objs.size + 1 := by rw [← hH2, Heap.size_push]
  have hDC : h₂.objs.size ≠ H2.objs.size := by omega
  have old : ∀ b o, h₂.get? b = some o → h₁.get? b = some o := fun b o e => hsb₁.extBut b o (ne_of_lt_succ (Heap.lt_size e) hC) (Heap.get?_push_of_some _ (hH2 ▸ Heap.get?_push_of_some _ e))
  have none0 : ∀ a, h₂.objs.size ≤ a → s₀.heap.get? a = none := fun a ha => by
    cases e : s₀.heap.get? a with
    | none => rfl
    | some o' => exact absurd (Heap.lt_size (hk2 _ _ e)) (Nat.not_lt.mpr ha)
  have hacc : h₁.PlainList h₂.objs.size #[] := ⟨0, hsb₁.extBut _ _ hDC (Heap.get?_push_of_some _ (hH2 ▸ Heap.get?_push_size _ rfl))⟩
  have hIlt := Heap.lt_size hoI
  have it₁ : It 0 h₁ := T.mv _ _ _ it fun o e => old I o e
  have loop : ∀ s₃ : Shared, s₃ = { s₀ with heap := h₁, toks := tk₂ + ([] : List (Str × Value)).length } →
      codeAny c.M A (.compLoop (.ListComp elt [⟨.Name (nm x) xp, iter, ifs, 0⟩] sc pos) 0 (.ref I) (.ref h₂.objs.size) (compEnvC sc (clOf env sc) H2.objs.size env)) (RR (.ref h₂.objs.size) H2.objs.size) s₃ := by
    rintro s₃ rfl
    exact comp_loop T hok co eo (helt _) (hifs _) g₀ hI (none0 _ (by omega)) (none0 _ (Nat.le_refl _)) hDC (Nat.ne_of_gt hIlt) (fun q => ne_of_lt_succ hIlt hC q.symm) (fun b o e => old b o (hk2 b o e)) ⟨_, _, rfl⟩ it₁ ⟨_, hns₁⟩ hacc hd hk hsz hcomp
      fun s' us out σ' h1 h2 h3 h4 h5 h6 h7 => hR _ _ s' us out σ' (none0 _ (Nat.le_refl _)) (none0 _ (by omega)) hDC h1 h2 h3 h4 h5 h6 h7
  refine codeAny_compStart_list (loop _ rfl) ?_
  have g1 : StoreOk σ₀ P h₁ := g₀.st.keeps fun b o e => old b o (hk2 b o e)
  refine T.self 0 _ σ₀ P _ _ it₁ (hok σ₀ P { s₀ with heap := h₁, toks := tk₂ + ([] : List (Str × Value)).length } (hd.keeps fun b o e => old b o (hk2 b o e)) g1 hk) ?_
  exact loop _ rfl
end
end Mine

open PySem PyProof.Rows
set_option Elab.async false
set_option linter.unusedVariables false
namespace Mine
section
variable {c : Cx} {A : Around} {nm : Nat → Str} {vs : List Nat} {env : Env}

theorem RepL.weakP {σ : Store} {P P' : Addr → Prop} {h : Heap} {ds : List D} {us : List Value} (x : RepL (nd σ P') h ds us) (hp : ∀ a, P a → P' a) : RepL (nd σ P) h ds us :=
  RepL.stay (fun b o items n hN ho _ => ⟨ho, hN.1, fun q => hN.2 (hp b q)⟩) _ _ x

/-- the list of a comprehension at its end -/
theorem comp_fin {σ₁ σ' : Store} {P : Addr → Prop} {s₁ s' : Shared} {Dl : Addr} {us : Array Value} {out : List D} {m : Bool} {Φ : D → Store → Prop} (hΦ : mkS m out σ' Φ) (hD : s₁.heap.get? Dl = none) (hPD : ¬ P Dl) (hl : s'.heap.PlainList Dl us)
    (hr : RepL (nd σ' fun a => P a ∨ a = Dl) s'.heap out us.toList) (ok : StoreOk σ' (fun a => P a ∨ a = Dl) s'.heap) (st : Step noF σ₁ σ' s₁ s') :
    ∃ d σ'', Φ d σ'' ∧ Step noF σ₁ σ'' s₁ s' ∧ StoreOk σ'' P s'.heap ∧ Rep (nd σ'' P) s'.heap d (.ref Dl) ∧ ∀ a, dom σ'' a → dom σ' a ∨ a = Dl := by
  unfold mkS at hΦ
  cases m with
  | false =>
    simp only [Bool.false_eq_true, if_false] at hΦ
    refine ⟨.list out, σ', hΦ, st, ok.weak fun a h => .inl h, ?_, fun a h => .inl h⟩
    simp only [Rep]
    exact ⟨Dl, us, rfl, ⟨fun hd => ok.free Dl hd (.inr rfl), hPD⟩, hl.isList, hr.weakP fun a h => .inl h⟩
  | true =>
    simp only [if_true] at hΦ
    obtain ⟨hf, ok2⟩ := adopt ok (fun b => Iff.rfl) hPD hl hr
    refine ⟨.obj Dl, _, hΦ Dl hf, ⟨st.same, st.keep, st.alive, fun a ha => ?_⟩, ok2, by simp [Rep], fun a ha => dom_set ha⟩
    rcases dom_set ha with h | rfl
    · exact st.new a h
    · exact .inr hD

theorem comp_pre {σ : Store} {P : Addr → Prop} {s : Shared} {C : Addr} {h' : Heap} (hn : ∃ m, s.heap.Ns C m) (hs : Heap.SameBut C s.heap h') : Stay (nd σ P) (nd σ P) s.heap h' := fun a o items n hN ho hd => by
  refine ⟨hs.extBut a o (fun e => ?_) ho, hN⟩
  obtain ⟨m, o', es, ep, ho', hd', _⟩ := hn
  subst e
  rw [ho'] at ho; cases ho; rw [hd'] at hd; cases hd

theorem R_comp {sc : Scope} {x : Nat} {fr : List Nat} {xp pos : Pos} {iter elt : Expr} {ifs : List Expr} {vt : VT} {vts : List VT} {tr : PEnv → Store → (D → List D → Store → Prop) → Prop} (hs : ∀ v, foldedSetIterable iter env v = pure v)
    (co : CompOk nm vs env sc x fr) (eo : EnvOk nm vs env) (hiter : SndI c A nm vs env tr iter) (helt : ∀ C, SndV c A nm (x :: fr) (compEnvC sc (clOf env sc) C env) vt elt) (hifs : ∀ C, SndL c A nm (x :: fr) (compEnvC sc (clOf env sc) C env) vts ifs)
    {m : Bool} {ρ : PEnv} {σ : Store} {Φ : D → Store → Prop}
    (h : tr ρ σ fun d ds σ₁ => ds.length ≤ small ∧ compS (fun e σ' K => ifsT vts ((ρ.only fr).put x e) σ' fun b σ'' => (b = true → vt.v ((ρ.only fr).put x e) σ'' fun r σ₃ => K (some r) σ₃) ∧ (b = false → K Option.none σ'')) (keepS d ds) ds σ₁ [] fun out σ₂ => mkS m out σ₂ Φ) :
    WPv c A nm vs env ρ σ (eval (.ListComp elt [⟨.Name (nm x) xp, iter, ifs, 0⟩] sc pos) env) Φ := by
  intro P s g Q E hQ
  rw [eval_ListComp]
  refine wpAny_comprehension_free (use := Option.none) rfl hs (closureFor_eq (co.cellsOf eo)) co.kind (fun y hy hl => by obtain ⟨n, k⟩ := y; simp only at hl; subst hl; exact lookup_nodup co.nodup hy) ?_
  refine hiter ρ σ _ h P s g _ _ fun xv d ds σ₁ s₁ hΦ st₁ ok₁ itv => ?_
  obtain ⟨v, hr, hk, hit⟩ := itv
  have g₁ := g.next st₁ ok₁
  refine hit _ _ fun I ok It s₂ hI kp T it hok => ?_
  refine comp_block T hok co eo helt hifs g₁ hI kp it hr hk hΦ.1 hΦ.2 (RR := fun acc C => compPost c.M A E Option.none Q acc C) ?_
  intro Dl C s' us out σ' hD hC hDC hΨ hdC hn hl hrl ok' st'
  obtain ⟨mm, hnn⟩ := hn
  refine ⟨mm, hnn, fun h'' hs'' => ?_⟩
  have k'' : ∀ b o, b ≠ C → s'.heap.get? b = some o → h''.get? b = some o := fun b o hb e => hs''.extBut b o hb e
  have stay'' : Stay (nd σ' fun a => P a ∨ a = Dl) (nd σ' fun a => P a ∨ a = Dl) s'.heap h'' := comp_pre ⟨mm, hnn⟩ hs''
  have ok'' : StoreOk σ' (fun a => P a ∨ a = Dl) h'' := ok'.fr stay'' hdC k''
  have hl'' : h''.PlainList Dl us := hl.at fun o e => k'' Dl o hDC e
  obtain ⟨e, σ'', q1, q2, q3, q4, _⟩ := comp_fin (s' := { s' with heap := h'' }) hΨ hD (fun hp => by obtain ⟨o, ho⟩ := g₁.prot _ hp; rw [hD] at ho; cases ho) hl'' (RepL.stay stay'' _ _ hrl) ok'' (st'.but (tk := s'.toks) hC k'')
  exact hQ _ e σ'' _ q1 (st₁.trans q2) q3 q4

/-- a comprehension that is stored at once -/
theorem R_assign_comp {sc : Scope} {x y : Nat} {fr : List Nat} {xp yp pos spos : Pos} {iter elt : Expr} {ifs : List Expr} {vt : VT} {vts : List VT} {tr : PEnv → Store → (D → List D → Store → Prop) → Prop} (hs : ∀ v, foldedSetIterable iter env v = pure v)
    (hsw : swapsWith (.ListComp elt [⟨.Name (nm x) xp, iter, ifs, 0⟩] sc pos) (some (.Name (nm y) yp)) spos.line env = pure true) (hy : y ∈ vs)
    (co : CompOk nm vs env sc x fr) (eo : EnvOk nm vs env) (hiter : SndI c A nm vs env tr iter) (helt : ∀ C, SndV c A nm (x :: fr) (compEnvC sc (clOf env sc) C env) vt elt) (hifs : ∀ C, SndL c A nm (x :: fr) (compEnvC sc (clOf env sc) C env) vts ifs)
    {m : Bool} {ρ : PEnv} {σ : Store} {Φ : Res → Prop}
    (h : tr ρ σ fun d ds σ₁ => ds.length ≤ small ∧ compS (fun e σ' K => ifsT vts ((ρ.only fr).put x e) σ' fun b σ'' => (b = true → vt.v ((ρ.only fr).put x e) σ'' fun r σ₃ => K (some r) σ₃) ∧ (b = false → K Option.none σ'')) (keepS d ds) ds σ₁ [] fun out σ₂ => mkS m out σ₂ fun d σ' => Φ (.next (ρ.put y d) σ')) :
    WPs c A nm vs env ρ σ (exec (.Assign [.Name (nm y) yp] (.ListComp elt [⟨.Name (nm x) xp, iter, ifs, 0⟩] sc pos) spos) env) Φ := by
  intro P s g Q E hQ
  rw [exec_Assign_Name_used _ _ _ _ hsw]
  refine wpAny_bind (wpAny_standAt (wpAny_bind ?_))
  show wpAny _ A (do let _ ← comprehension (.ListComp elt [⟨.Name (nm x) xp, iter, ifs, 0⟩] sc pos) sc env _ (newList []) false (eval iter env) (some (assign (.Name (nm y) yp) env))) _ _ s
  refine wpAny_bind (wpAny_mono (wpAny_comprehension_free (use := some (assign (.Name (nm y) yp) env)) (Q := fun _ s' => Q .next s') rfl hs (closureFor_eq (co.cellsOf eo)) co.kind (fun y hy hl => by obtain ⟨n, k⟩ := y; simp only at hl; subst hl; exact lookup_nodup co.nodup hy) ?_) (fun _ s' hq => wpAny_pure (wpAny_pure hq)) fun _ _ e => e)
  refine hiter ρ σ _ h P s g _ _ fun xv d ds σ₁ s₁ hΦ st₁ ok₁ itv => ?_
  obtain ⟨v, hr, hk, hit⟩ := itv
  have g₁ := g.next st₁ ok₁
  refine hit _ _ fun I ok It s₂ hI kp T it hok => ?_
  refine comp_block T hok co eo helt hifs g₁ hI kp it hr hk hΦ.1 hΦ.2 (RR := fun acc C => compPost c.M A E (some (assign (.Name (nm y) yp) env)) (fun _ s' => Q .next s') acc C) ?_
  intro Dl C s' us out σ' hD hC hDC hΨ hdC hn hl hrl ok' st'
  obtain ⟨e, σ'', q1, q2, q3, q4, q5⟩ := comp_fin hΨ hD (fun hp => by obtain ⟨o, ho⟩ := g₁.prot _ hp; rw [hD] at ho; cases ho) hl hrl ok' st'
  have g' := g₁.next q2 q3
  have nfC : ¬ FrA env C := fun hf => by obtain ⟨o, ho, _⟩ := g₁.fr_alive hf; rw [hC] at ho; cases ho
  have ndC : ¬ dom σ'' C := fun hd => (q5 C hd).elim hdC (fun q => hDC q.symm)
  show wpAny _ A (assign (.Name (nm y) yp) env (.ref Dl)) _ _ _
  refine wpAny_assign_Name (store_sound eo hy g' q4 fun s₃ st₃ g₃ => ?_)
  obtain ⟨mm, hnn⟩ := hn
  have hnC : s₃.heap.Ns C mm := hnn.at' fun o e => st₃.keep C o e ndC nfC
  refine ⟨mm, hnC, fun h'' hs'' => ?_⟩
  have k'' : ∀ b o, b ≠ C → s₃.heap.get? b = some o → h''.get? b = some o := fun b o hb e => hs''.extBut b o hb e
  have hbC : c.b.get? C = none := by
    cases e : c.b.get? C with
    | none => rfl
    | some o => rw [g₁.base C o e] at hC; cases hC
  have hPC : ¬ P C := fun hp => by obtain ⟨o, ho⟩ := g₁.prot _ hp; rw [hC] at ho; cases ho
  obtain ⟨g₄, _⟩ := g₃.change hbC nfC ndC (fun o items n _ ho hd => by obtain ⟨o', es, ep, ho', hd', _⟩ := hnC; rw [ho'] at ho; cases ho; rw [hd'] at hd; cases hd) (tk := s₃.toks) (fun q => (hPC q).elim) k''
  have st04 : Step (FrA env) σ σ'' s { s₃ with heap := h'' } := by
    have a1 : Step (FrA env) σ₁ σ'' s₁ s₃ := (q2.weak (fun _ h => h.elim)).trans st₃
    exact (st₁.weak (fun _ h => h.elim)).trans (a1.but (tk := s₃.toks) hC k'')
  exact hQ .next _ (.next (ρ.put y e) σ'') q1 st04 ⟨rfl, g₄⟩
end
end Mine

open PySem PyProof.Rows
set_option Elab.async false
set_option linter.unusedVariables false
namespace Mine

/-- a function of the text keeps its spec at every place with room n -/
structure Valid (c : Cx) (n : Nat) (f : Addr) (S : Spec) : Prop where
  fn : ∃ o fd, c.b.get? f = some o ∧ o.data = .func fd
  call : ∀ A, Room n A → ∀ ds σ Φ, S ds σ Φ → ∀ (P : Addr → Prop) (s : Shared) us, (∀ a o, c.b.get? a = some o → s.heap.get? a = some o) → StoreOk σ P s.heap → (∀ a, dom σ a → c.b.get? a = Option.none) → (∀ a, P a → ∃ o, s.heap.get? a = some o) →
    RepL (nd σ P) s.heap ds us → ∀ (Q : Value → Shared → Prop) (E : Value → Shared → Prop), (∀ v d σ' s', Φ d σ' → Step noF σ σ' s s' → StoreOk σ' P s'.heap → Rep (nd σ' P) s'.heap d v → Q v s') →
    codeAny c.M A (.call (.ref f) ⟨us, []⟩) (fun r s' => match r with | .ok (.ret v) => Q v s' | .ok _ => False | .error e => E e s') s
theorem Valid.mono {c : Cx} {n m : Nat} {f : Addr} {S : Spec} (V : Valid c n f S) (h : n ≤ m) : Valid c m f S := ⟨V.fn, fun A hA => V.call A (hA.le h)⟩

/-- what is known of global names -/
structure GT (c : Cx) (n : Nat) (N : Nms) (gv : Nat → Value) (S : Nat → Spec) (gl fns : List Nat) : Prop where
  glob : ∀ g ∈ gl, c.glob (N.gn g) = some (gv g)
  fn : ∀ g ∈ fns, ∃ f, gv g = .ref f ∧ Valid c n f (S g)

/-- the tables that a text's check needs -/
structure Tb where
  N : Nms
  gv : Nat → Value
  gl : List Nat
  fns : List Nat

def Tb.gOk (t : Tb) (names : List (Str × NameKind)) (g : Nat) : Bool := names.contains (t.N.gn g, .globalImplicit) && !(t.N.gn g == ("__debug__" : Str)) && t.gl.contains g

def compChk (t : Tb) (names : List (Str × NameKind)) (vs : List Nat) (sc : Scope) (x : Nat) (fr : List Nat) : Bool :=
  sc.kind == .function && decide (sc.names.map (·.1)).Nodup && sc.names.contains (t.N.nm x, .local) &&
  fr.all (fun i => vs.contains i && sc.names.contains (t.N.nm i, .free) && names.contains (t.N.nm i, .cell)) &&
  sc.names.all (fun y => y.2 != .free || fr.any fun i => t.N.nm i == y.1) && sc.names.all (fun y => y.2 != .cell) && !(t.N.nm x == ("__debug__" : Str))

/-- what may stand ahead of a dot -/
def baseOk : PE → Bool
  | .call _ _ [] _ => false
  | .bi _ _ _ _ [] _ => false
  | _ => true

mutual
def wf (t : Tb) (names : List (Str × NameKind)) (vs : List Nat) : PE → Bool
  | .var i _ => vs.contains i
  | .cint _ _ => true
  | .cnone _ => true
  | .cbool _ _ => true
  | .cstr _ _ => true
  | .bin _ l r _ => wf t names vs l && wf t names vs r
  | .neg e _ => wf t names vs e
  | .not e _ => wf t names vs e
  | .bop _ es _ => wfL t names vs es
  | .cmp _ l r _ => wf t names vs l && wf t names vs r
  | .cmp2 _ _ a b c _ => wf t names vs a && wf t names vs b && wf t names vs c
  | .call g _ args _ => t.gOk names g && t.fns.contains g && !args.isEmpty && wfL t names vs args
  | .bi b _ g _ args _ => t.gOk names g && t.gv g == b.val && !args.isEmpty && wfL t names vs args
  | .isi e ty g _ gt _ _ => t.gOk names g && t.gv g == .builtin "isinstance" && t.gOk names gt && t.gv gt == .type ty.name && wf t names vs e
  | .sub o i _ => wf t names vs o && wf t names vs i
  | .slc _ o lo hi _ _ => wf t names vs o && wfO t names vs lo && wfO t names vs hi
  | .list _ es _ => wfL t names vs es
  | .tup es _ _ => wfL t names vs es
  | .mmd mx g _ e _ _ _ => t.gOk names g && t.gv g == .builtin (if mx then "max" else "min") && wf t names vs e
  | .sset g _ g' _ e _ _ => t.gOk names g && t.gv g == .builtin "sorted" && t.gOk names g' && t.gv g' == .type "set" && wf t names vs e
  | .app o ap e p => (ap.endLine == p.line) && baseOk o && wf t names vs o && wf t names vs e
  | .comp _ elt x _ it ifs sc fr _ => wfI t names vs it && compChk t names vs sc x fr && wf t sc.names (x :: fr) elt && wfL t sc.names (x :: fr) ifs
def wfL (t : Tb) (names : List (Str × NameKind)) (vs : List Nat) : List PE → Bool
  | [] => true
  | e :: r => wf t names vs e && wfL t names vs r
def wfO (t : Tb) (names : List (Str × NameKind)) (vs : List Nat) : Option PE → Bool
  | Option.none => true
  | some e => wf t names vs e
def wfI (t : Tb) (names : List (Str × NameKind)) (vs : List Nat) : IT → Bool
  | .of e => wf t names vs e
  | .range g _ e _ => t.gOk names g && t.gv g == .type "range" && wf t names vs e
end
def isComp : PE → Bool
  | .comp .. => true
  | _ => false

mutual
def wfS (t : Tb) (names : List (Str × NameKind)) (vs : List Nat) : PS → Bool
  | .assign x _ e _ => vs.contains x && wf t names vs e
  | .expr e _ => !isComp e && wf t names vs e
  | .ite e b o _ => wf t names vs e && wfSs t names vs b && wfSs t names vs o
  | .loop x _ it b _ => vs.contains x && wfI t names vs it && wfSs t names vs b
  | .while e b _ => wf t names vs e && wfSs t names vs b
  | .ret e _ => wf t names vs e
def wfSs (t : Tb) (names : List (Str × NameKind)) (vs : List Nat) : List PS → Bool
  | [] => true
  | s :: r => wfS t names vs s && wfSs t names vs r
end

/-- the names' table of a frame -/
structure Nm (env : Env) (names : List (Str × NameKind)) : Prop where
  glob : ∀ n, (n, NameKind.globalImplicit) ∈ names → env.kindOf n = some .globalImplicit
  cell : ∀ n, (n, NameKind.cell) ∈ names → env.kindOf n = some .cell

theorem compChk_ok {t : Tb} {names : List (Str × NameKind)} {vs : List Nat} {sc : Scope} {x : Nat} {fr : List Nat} {env : Env} (h : compChk t names vs sc x fr = true) (hn : Nm env names) : CompOk t.N.nm vs env sc x fr := by
  unfold compChk at h
  simp only [Bool.and_eq_true, Bool.not_eq_true', decide_eq_true_eq, List.all_eq_true] at h
  obtain ⟨⟨⟨⟨⟨⟨h1, h2⟩, h3⟩, h4⟩, h5⟩, h6⟩, h7⟩ := h
  refine ⟨by simpa using h1, h2, by simpa using h3, fun i hi => ?_, fun y hy hf => ?_, fun y hy => by simpa using h6 y hy, h7⟩
  · have := h4 i hi
    exact ⟨by simpa using this.1.1, by simpa using this.1.2, hn.cell _ (by simpa using this.2)⟩
  · have := h5 y hy
    rw [hf] at this
    simp at this
    obtain ⟨i, hi, e⟩ := this
    exact ⟨i, hi, e⟩

theorem nm_block {env : Env} {sc : Scope} {nm : Nat → Str} {vs : List Nat} {x : Nat} {fr : List Nat} (co : CompOk nm vs env sc x fr) (cl : List (Str × Addr)) (C : Addr) : Nm (compEnvC sc cl C env) sc.names where
  glob := fun n hm => by
    show (relabel sc env).names.lookup n = _
    rw [relabel_lookup co.nodup hm]; rfl
  cell := fun n hm => absurd rfl (co.nocell _ hm)

/-! the embedding makes no set display, no slice, no star -/
theorem emb_marks (N : Nms) (op : CmpOp) (e : PE) : behindInMarks op (emb N e) = false := by cases e <;> simp [emb, behindInMarks]
theorem emb_sub (N : Nms) (e : PE) (x y : Value) : subscripted (emb N e) false x y = operate [x, y] (getItem x y) := by cases e <;> simp [emb, subscripted]
theorem emb_star (N : Nms) (e : PE) (rest : List Expr) (env : Env) : starEach (emb N e :: rest) env = (false, eval (emb N e) env) :: starEach rest env := by cases e <;> simp only [emb] <;> rfl
theorem emb_fold (N : Nms) (e : PE) (env : Env) (v : Value) : foldedSetIterable (emb N e) env v = pure v := by cases e <;> simp only [emb] <;> rfl
theorem embI_fold (N : Nms) (it : IT) (env : Env) (v : Value) : foldedSetIterable (embI N it) env v = pure v := by
  cases it with
  | of e => simp only [embI]; exact emb_fold N e env v
  | range => simp only [embI]; rfl
theorem emb_base (N : Nms) (e : PE) (a : Str) (env : Env) (x : Sem Value) (h : baseOk e = true) : attributeBase (emb N e) a env x = x := by
  cases e <;> simp only [emb] <;> first | rfl | skip
  · rename_i g gp args p
    cases args <;> simp only [embL]
    · cases h
    · rfl
  · rename_i b m g gp args p
    cases args <;> simp only [embL]
    · cases h
    · rfl
theorem plain_star {env : Env} {pos : Pos} : ∀ (N : Nms) (es : List PE), (backTo pos (starEach (embL N es) env)).any (·.1) = false
  | N, [] => by simp only [embL]; rfl
  | N, e :: r => by
    simp only [embL]
    rw [emb_star]
    have := plain_star (env := env) (pos := pos) N r
    show (false || (backTo pos (starEach (embL N r) env)).any (·.1)) = false
    rw [this]; rfl
end Mine

open PySem PyProof.Rows
set_option Elab.async false
set_option linter.unusedVariables false
namespace Mine
section
variable {c : Cx} {A : Around} {nm : Nat → Str} {vs : List Nat} {env : Env}

theorem units_ok {n : Nat} (hA : Room n A) : A.units + 64 < cLine := by have := hA.2.2; unfold cLine; omega

theorem sndT_of {v : ETr} {e : Expr} (hv : SndV c A nm vs env (.of v) e) (he : ∀ whole, isTrue e env whole = (do let v ← whole; standAt e.pos; holding [v] (truthy v))) : SndT c A nm vs env (.of v) e := by
  intro ρ σ Φ h P s g Q E hQ
  refine isTrue_plain ?_ (he _)
  refine hv ρ σ _ h P s g _ _ fun u d σ' s' hd st ok hr => ?_
  exact truthS_sound hd hr fun b hb => hQ b σ' s' hb st ok

theorem L_bin {x y : VT} {l r : Expr} {op : Operator} {p : Pos} (hx : SndV c A nm vs env x l) (hy : SndV c A nm vs env y r) :
    SndV c A nm vs env (.of fun ρ σ Φ => x.v ρ σ fun a σ₁ => y.v ρ σ₁ fun b σ₂ => binS op a b σ₂ Φ) (.BinOp l op r p) := by
  intro ρ σ Φ h P s g Q E hQ
  refine wpAny_BinOp (R_two g (hx ρ σ _ h) (fun d σ' hd => hy ρ σ' _ hd) fun v₁ v₂ d₁ d₂ σ' s' hb st g' r₁ r₂ => ?_)
  exact binS_sound g' hb r₁ r₂ fun v d σ'' s'' a b e f => hQ v d σ'' s'' a (st.trans b) e f

theorem L_cmp {x y : VT} {l r : Expr} {op : CmpOp} {p : Pos} (hu : A.units + 64 < cLine) (hm : behindInMarks op r = false) (hx : SndV c A nm vs env x l) (hy : SndV c A nm vs env y r) :
    SndV c A nm vs env (.of fun ρ σ Φ => x.v ρ σ fun a σ₁ => y.v ρ σ₁ fun b σ₂ => cmpS op a b σ₂ Φ) (.Compare l [op] [r] p) ∧
    SndT c A nm vs env (.of fun ρ σ Φ => x.v ρ σ fun a σ₁ => y.v ρ σ₁ fun b σ₂ => cmpS op a b σ₂ Φ) (.Compare l [op] [r] p) := by
  constructor
  · intro ρ σ Φ h P s g Q E hQ
    refine wpAny_Compare1 (R_two g (hx ρ σ _ h) (fun d σ' hd => hy ρ σ' _ hd) fun v₁ v₂ d₁ d₂ σ' s' hb st g' r₁ r₂ => ?_) hm
    exact cmpS_sound hu g' hb r₁ r₂ fun v d σ'' s'' a b e f => hQ v d σ'' s'' a (st.trans b) e f
  · intro ρ σ Φ h P s g Q E hQ
    refine wpAny_isTrue_Compare1 (R_two g (hx ρ σ _ h) (fun d σ' hd => hy ρ σ' _ hd) fun v₁ v₂ d₁ d₂ σ' s' hb st g' r₁ r₂ => ?_) hm
    exact cmpS_sound hu g' hb r₁ r₂ fun v d σ'' s'' a b e f => truthS_sound a f fun t ht => hQ t σ'' s'' ht (st.trans b) e

theorem L_cmp2 {x y z : VT} {l m r : Expr} {o₁ o₂ : CmpOp} {p : Pos} (hu : A.units + 64 < cLine) (hm : behindInMarks o₂ r = false) (hx : SndV c A nm vs env x l) (hy : SndV c A nm vs env y m) (hz : SndV c A nm vs env z r) :
    SndV c A nm vs env (.of fun ρ σ Φ => x.v ρ σ fun a σ₁ => y.v ρ σ₁ fun b σ₂ => cmpS o₁ a b σ₂ fun d σ₃ => truthS d σ₃ fun t σ₄ => (t = false → Φ (.bool false) σ₄) ∧ (t = true → z.v ρ σ₄ fun w σ₅ => cmpS o₂ b w σ₅ Φ)) (.Compare l [o₁, o₂] [m, r] p) ∧
    SndT c A nm vs env (.of fun ρ σ Φ => x.v ρ σ fun a σ₁ => y.v ρ σ₁ fun b σ₂ => cmpS o₁ a b σ₂ fun d σ₃ => truthS d σ₃ fun t σ₄ => (t = false → Φ (.bool false) σ₄) ∧ (t = true → z.v ρ σ₄ fun w σ₅ => cmpS o₂ b w σ₅ Φ)) (.Compare l [o₁, o₂] [m, r] p) := by
  constructor
  · intro ρ σ Φ h P s g Q E hQ
    refine Compare_chain ?_ hm
    refine hx ρ σ _ h P s g _ _ fun v₁ d₁ σ₁ s₁ h₁ st₁ ok₁ r₁ => ?_
    have g₁ := g.next st₁ ok₁
    refine chain_link (hy ρ σ₁ _ h₁ P s₁ g₁ _ _ fun v₂ d₂ σ₂ s₂ h₂ st₂ ok₂ r₂ => ?_)
    have g₂ := g₁.next st₂ ok₂
    refine cmpS_sound hu g₂ h₂ (Rep.stay (st₂.stay P) _ _ r₁) r₂ fun v₃ d₃ σ₃ s₃ h₃ st₃ ok₃ r₃ => ?_
    have g₃ := g₂.next st₃ ok₃
    cases d₃ <;> simp only [truthS] at h₃
    rename_i t
    simp only [Rep] at r₃
    subst r₃
    refine wpAny_truthy_bool ?_
    cases t with
    | false => simp only [Bool.false_eq_true, if_false]; exact hQ _ (.bool false) σ₃ s₃ (h₃.1 rfl) ((st₁.trans st₂).trans st₃) ok₃ rep_bool
    | true =>
      simp only [if_true]
      refine chain_last (hz ρ σ₃ _ (h₃.2 rfl) P s₃ g₃ _ _ fun v₄ d₄ σ₄ s₄ h₄ st₄ ok₄ r₄ => ?_)
      exact cmpS_sound hu (g₃.next st₄ ok₄) h₄ (Rep.stay (st₄.stay P) _ _ (Rep.stay (st₃.stay P) _ _ r₂)) r₄ fun v d σ'' s'' a b e f => hQ v d σ'' s'' a ((((st₁.trans st₂).trans st₃).trans st₄).trans b) e f
  · intro ρ σ Φ h P s g Q E hQ
    refine isTrue_chain ?_ hm
    refine hx ρ σ _ h P s g _ _ fun v₁ d₁ σ₁ s₁ h₁ st₁ ok₁ r₁ => ?_
    have g₁ := g.next st₁ ok₁
    refine test_link (hy ρ σ₁ _ h₁ P s₁ g₁ _ _ fun v₂ d₂ σ₂ s₂ h₂ st₂ ok₂ r₂ => ?_)
    have g₂ := g₁.next st₂ ok₂
    refine cmpS_sound hu g₂ h₂ (Rep.stay (st₂.stay P) _ _ r₁) r₂ fun v₃ d₃ σ₃ s₃ h₃ st₃ ok₃ r₃ => ?_
    have g₃ := g₂.next st₃ ok₃
    cases d₃ <;> simp only [truthS] at h₃
    rename_i t
    simp only [Rep] at r₃
    subst r₃
    refine wpAny_truthy_bool ?_
    cases t with
    | false => simp only [Bool.false_eq_true, if_false]; exact hQ false σ₃ s₃ (h₃.1 rfl) ((st₁.trans st₂).trans st₃) ok₃
    | true =>
      simp only [if_true]
      refine test_last (hz ρ σ₃ _ (h₃.2 rfl) P s₃ g₃ _ _ fun v₄ d₄ σ₄ s₄ h₄ st₄ ok₄ r₄ => ?_)
      exact cmpS_sound hu (g₃.next st₄ ok₄) h₄ (Rep.stay (st₄.stay P) _ _ (Rep.stay (st₃.stay P) _ _ r₂)) r₄ fun v d σ'' s'' a b e f => truthS_sound a f fun t ht => hQ t σ'' s'' ht ((((st₁.trans st₂).trans st₃).trans st₄).trans b) e

theorem L_neg {x : VT} {e : Expr} {p : Pos} (hx : SndV c A nm vs env x e) : SndV c A nm vs env (.of fun ρ σ Φ => x.v ρ σ fun d σ' => match d with | .int i => Φ (.int (-i)) σ' | _ => False) (.UnaryOp .USub e p) := by
  intro ρ σ Φ h P s g Q E hQ
  refine UnaryOp_ (hx ρ σ _ h P s g _ _ fun v d σ' s' hd st ok hr => ?_)
  cases d <;> simp only at hd
  simp only [Rep] at hr
  obtain ⟨t, rfl⟩ := hr
  exact PyProof.Rows.neg_int (fin_keeps (g.next st ok) (fun v d σ'' s'' a b e f => hQ v d σ'' s'' a (st.trans b) e f) hd (keeps_toks s' _) rep_int)

theorem L_not {x : VT} {e : Expr} {p : Pos} (hx : SndV c A nm vs env x e) (ht : SndT c A nm vs env x e) :
    SndV c A nm vs env ⟨fun ρ σ Φ => x.v ρ σ fun d σ' => truthS d σ' fun b σ'' => Φ (.bool (!b)) σ'', fun ρ σ Φ => x.t ρ σ fun b σ' => Φ (!b) σ'⟩ (.UnaryOp .Not e p) ∧
    SndT c A nm vs env ⟨fun ρ σ Φ => x.v ρ σ fun d σ' => truthS d σ' fun b σ'' => Φ (.bool (!b)) σ'', fun ρ σ Φ => x.t ρ σ fun b σ' => Φ (!b) σ'⟩ (.UnaryOp .Not e p) := by
  constructor
  · intro ρ σ Φ h P s g Q E hQ
    refine UnaryOp_ (hx ρ σ _ h P s g _ _ fun v d σ' s' hd st ok hr => not_of ?_)
    exact truthS_sound hd hr fun b hb => hQ _ (.bool (!b)) σ' s' hb st ok rep_bool
  · intro ρ σ Φ h P s g Q E hQ
    exact isTrue_not (ht ρ σ _ h P s g _ _ fun b σ' s' hb st ok => hQ (!b) σ' s' hb st ok)

theorem L_bopT {op : BoolOp} {p : Pos} {whole : Sem Value} {xs : List VT} {es : List Expr} (h : SndL c A nm vs env xs es) : ∀ ρ σ Φ, bopT op xs ρ σ Φ → WPb c A nm vs env ρ σ (isTrue (.BoolOp op es p) env whole) Φ := by
  induction h with
  | nil =>
    intro ρ σ Φ h P s g Q E hQ
    cases op
    · exact isTrue_and_nil (hQ true σ s h (Step.refl _ _ _) g.st)
    · exact isTrue_or_nil (hQ false σ s h (Step.refl _ _ _) g.st)
  | cons hv ht _ ih =>
    intro ρ σ Φ h P s g Q E hQ
    cases op
    · refine isTrue_and (ht ρ σ _ h P s g _ _ fun b σ₁ s₁ hb st₁ ok₁ => ?_)
      cases b with
      | false => simp only [Bool.false_eq_true, if_false]; exact hQ false σ₁ s₁ (hb.1 rfl) st₁ ok₁
      | true => simp only [if_true]; exact ih ρ σ₁ Φ (hb.2 rfl) P s₁ (g.next st₁ ok₁) Q E fun b' σ₂ s₂ h₂ st₂ ok₂ => hQ b' σ₂ s₂ h₂ (st₁.trans st₂) ok₂
    · refine isTrue_or (ht ρ σ _ h P s g _ _ fun b σ₁ s₁ hb st₁ ok₁ => ?_)
      cases b with
      | true => simp only [if_true]; exact hQ true σ₁ s₁ (hb.1 rfl) st₁ ok₁
      | false => simp only [Bool.false_eq_true, if_false]; exact ih ρ σ₁ Φ (hb.2 rfl) P s₁ (g.next st₁ ok₁) Q E fun b' σ₂ s₂ h₂ st₂ ok₂ => hQ b' σ₂ s₂ h₂ (st₁.trans st₂) ok₂

theorem L_bopV {op : BoolOp} {p : Pos} {xs : List VT} {es : List Expr} (h : SndL c A nm vs env xs es) : ∀ ρ σ Φ, bopV op xs ρ σ Φ → WPv c A nm vs env ρ σ (eval (.BoolOp op es p) env) Φ := by
  induction h with
  | nil => intro ρ σ Φ h; exact h.elim
  | cons hv ht tl ih =>
    intro ρ σ Φ h P s g Q E hQ
    cases tl with
    | nil => exact BoolOp_one (hv ρ σ _ h P s g _ _ hQ)
    | cons hv' ht' tl' =>
      cases op
      · refine BoolOp_and (hv ρ σ _ h P s g _ _ fun v d σ₁ s₁ hd st₁ ok₁ hr => truthS_sound hd hr fun b hb => ?_)
        cases b with
        | false => simp only [Bool.false_eq_true, if_false]; exact hQ v d σ₁ s₁ (hb.1 rfl) st₁ ok₁ hr
        | true => simp only [if_true]; exact ih ρ σ₁ Φ (hb.2 rfl) P s₁ (g.next st₁ ok₁) Q E fun v' d' σ₂ s₂ h₂ st₂ ok₂ r₂ => hQ v' d' σ₂ s₂ h₂ (st₁.trans st₂) ok₂ r₂
      · refine BoolOp_or (hv ρ σ _ h P s g _ _ fun v d σ₁ s₁ hd st₁ ok₁ hr => truthS_sound hd hr fun b hb => ?_)
        cases b with
        | true => simp only [if_true]; exact hQ v d σ₁ s₁ (hb.1 rfl) st₁ ok₁ hr
        | false => simp only [Bool.false_eq_true, if_false]; exact ih ρ σ₁ Φ (hb.2 rfl) P s₁ (g.next st₁ ok₁) Q E fun v' d' σ₂ s₂ h₂ st₂ ok₂ r₂ => hQ v' d' σ₂ s₂ h₂ (st₁.trans st₂) ok₂ r₂

theorem L_args {N : Nms} {pos : Pos} : ∀ (es : List PE) (xs : List VT), SndL c A nm vs env xs (embL N es) → ∀ ρ σ Φ, argsV xs ρ σ Φ → WPl c A nm vs env ρ σ (spliced (backTo pos (starEach (embL N es) env))) Φ
  | [], xs, h, ρ, σ, Φ, ha => by
    simp only [embL] at h ⊢
    cases h
    intro P s g Q E hQ
    exact args_nil (hQ [] [] σ s ha (Step.refl _ _ _) g.st .nil)
  | e :: r, xs, h, ρ, σ, Φ, ha => by
    simp only [embL] at h ⊢
    cases h with
    | cons hv _ tl =>
      intro P s g Q E hQ
      simp only [argsV] at ha
      refine args_cons (hv ρ σ _ ha P s g _ _ fun v d σ₁ s₁ hd st₁ ok₁ r₁ => ?_) (emb_star N e _ env)
      exact L_args r _ tl ρ σ₁ _ hd P s₁ (g.next st₁ ok₁) _ _ fun us ds σ₂ s₂ h₂ st₂ ok₂ r₂ => hQ (v :: us) (d :: ds) σ₂ s₂ h₂ (st₁.trans st₂) ok₂ (.cons (Rep.stay (st₂.stay P) _ _ r₁) r₂)

theorem L_sub {x y : VT} {o i : Expr} {p : Pos} (hi : ∀ a b, subscripted i false a b = operate [a, b] (getItem a b)) (hx : SndV c A nm vs env x o) (hy : SndV c A nm vs env y i) :
    SndV c A nm vs env (.of fun ρ σ Φ => x.v ρ σ fun a σ₁ => y.v ρ σ₁ fun b σ₂ => subS a b σ₂ Φ) (.Subscript o i p) := by
  intro ρ σ Φ h P s g Q E hQ
  refine Subscript_ (R_two g (hx ρ σ _ h) (fun d σ' hd => hy ρ σ' _ hd) fun v₁ v₂ d₁ d₂ σ' s' hb st g' r₁ r₂ => ?_)
  exact subS_sound hi g' hb r₁ r₂ fun v d σ'' s'' a b e f => hQ v d σ'' s'' a (st.trans b) e f

theorem L_list {N : Nms} {m : Bool} {es : List PE} {xs : List VT} {p : Pos} (h : SndL c A nm vs env xs (embL N es)) : SndV c A nm vs env (.of fun ρ σ Φ => argsV xs ρ σ fun ds σ' => Nat.ble ds.length small = true ∧ mkS m ds σ' Φ) (.List (embL N es) p) := by
  intro ρ σ Φ ha P s g Q E hQ
  refine List_ (L_args es xs h ρ σ _ ha P s g _ _ fun us ds σ₁ s₁ hd st₁ ok₁ r₁ => ?_)
  have g₁ := g.next st₁ ok₁
  have el := r₁.length
  have hl := Nat.le_of_ble_eq_true hd.1
  exact wpAny_newObj_type (fin_list g₁ hd.2 (fun v d σ'' s'' a b e f => hQ v d σ'' s'' a (st₁.trans b) e f) (keeps_push' s₁ _) (get?_size_none _) (us := us) ⟨0, Heap.get?_push_size _ rfl⟩ r₁) (by show us.toArray.size ≤ sizeLine; rw [List.size_toArray]; have := sizeLine_small; omega)

theorem L_tup {N : Nms} {es : List PE} {xs : List VT} {k : Nat} {p : Pos} (h : SndL c A nm vs env xs (embL N es)) : SndV c A nm vs env (.of fun ρ σ Φ => argsV xs ρ σ fun ds σ' => Nat.ble ds.length small = true ∧ Φ (.tuple ds) σ') (.Tuple (embL N es) k p) := by
  intro ρ σ Φ ha P s g Q E hQ
  refine Tuple_ (L_args es xs h ρ σ _ ha P s g _ _ fun us ds σ₁ s₁ hd st₁ ok₁ r₁ => ?_)
  have g₁ := g.next st₁ ok₁
  have el := r₁.length
  have hl := Nat.le_of_ble_eq_true hd.1
  exact wpAny_newObj_type (fin_tuple g₁ hd.2 (fun v d σ'' s'' a b e f => hQ v d σ'' s'' a (st₁.trans b) e f) (keeps_push' s₁ _) (get?_size_none _) (us := us) ⟨_, Heap.get?_push_size _ rfl, rfl, 0, rfl⟩ r₁) (by show us.toArray.size ≤ sizeLine; rw [List.size_toArray]; have := sizeLine_small; omega)

/-- a call by a global name: the name, then the arguments -/
theorem call_name {N : Nms} {x : Str} {gp p : Pos} {fv : Value} {es : List PE} {ρ : PEnv} {σ : Store} {P : Addr → Prop} {s : Shared} {Q : Value → Shared → Prop} {E : Value → Shared → Prop} (eo : EnvOk nm vs env) (hx : env.kindOf x = some .globalImplicit) (hd : (x == ("__debug__" : Str)) = false) (hv : c.glob x = some fv)
    (g : Good c nm vs env ρ σ P s) (h : wpAny c.M A (callWith p fv [] (backTo p (starEach (embL N es) env)) []) Q E s) : wpAny c.M A (eval (.Call (.Name x gp) (embL N es) [] p) env) Q E s := by
  rw [arm_eval_Call_Name']
  exact wpAny_bind (R_glob eo hx hd hv g h)

theorem L_call {N : Nms} {x : Str} {gp p : Pos} {f : Addr} {S : Spec} {n : Nat} {es : List PE} {xs : List VT} (hA : Room n A) (eo : EnvOk nm vs env) (hx : env.kindOf x = some .globalImplicit) (hd : (x == ("__debug__" : Str)) = false) (hv : c.glob x = some (.ref f)) (V : Valid c n f S)
    (hne : es ≠ []) (h : SndL c A nm vs env xs (embL N es)) : SndV c A nm vs env (.of fun ρ σ Φ => argsV xs ρ σ fun ds σ' => S ds σ' Φ) (.Call (.Name x gp) (embL N es) [] p) := by
  intro ρ σ Φ ha P s g Q E hQ
  refine call_name eo hx hd hv g ?_
  obtain ⟨o, fd, ho, hdat⟩ := V.fn
  cases es with
  | nil => exact absurd rfl hne
  | cons e r =>
    have h0 := L_args (pos := p) (e :: r) xs h ρ σ _ ha P s g
    simp only [embL] at h0 ⊢
    refine callWith_def hdat (h0 _ _ fun us ds σ₁ s₁ hS st₁ ok₁ r₁ => ?_) (emb_star N e _ env)
    have g₁ := g.next st₁ ok₁
    refine ⟨g₁.base f o ho, ?_⟩
    refine wpAny_call ?_
    exact V.call A hA ds σ₁ _ hS P s₁ us g₁.base ok₁ (fun a ha => (g₁.own a ha).1) g₁.prot r₁ Q E fun v d σ'' s'' a b e f => hQ v d σ'' s'' a (st₁.trans b) e f

theorem L_bi {N : Nms} {x : Str} {gp p : Pos} {b : BI} {m : Bool} {es : List PE} {xs : List VT} (hh : A.handled = none) (eo : EnvOk nm vs env) (hx : env.kindOf x = some .globalImplicit) (hd : (x == ("__debug__" : Str)) = false) (hv : c.glob x = some b.val)
    (hne : es ≠ []) (h : SndL c A nm vs env xs (embL N es)) : SndV c A nm vs env (.of fun ρ σ Φ => argsV xs ρ σ fun ds σ' => biS b m ds σ' Φ) (.Call (.Name x gp) (embL N es) [] p) := by
  intro ρ σ Φ ha P s g Q E hQ
  refine call_name eo hx hd hv g ?_
  cases es with
  | nil => exact absurd rfl hne
  | cons e r =>
    have h0 := L_args (pos := p) (e :: r) xs h ρ σ _ ha P s g
    have pl := plain_star (env := env) (pos := p) N r
    simp only [embL] at h0 ⊢
    have fin : wpAny c.M A (spliced (backTo p (starEach (emb N e :: embL N r) env))) (fun us s₁ => wpAny c.M A (PySem.call b.val us) Q E s₁) E s := h0 _ _ fun us ds σ₁ s₁ hS st₁ ok₁ r₁ =>
      biS_sound hh (g.next st₁ ok₁) hS r₁ fun v d σ'' s'' a b e f => hQ v d σ'' s'' a (st₁.trans b) e f
    cases b
    · exact callWith_builtin1 fin (emb_star N e _ env) pl
    · exact callWith_builtin1 fin (emb_star N e _ env) pl
    · exact PyProof.Rows.callWith_type1 fin (emb_star N e _ env) pl
    · exact PyProof.Rows.callWith_type1 fin (emb_star N e _ env) pl
    · exact callWith_builtin1 fin (emb_star N e _ env) pl
    · exact callWith_builtin1 fin (emb_star N e _ env) pl

theorem L_isi {N : Nms} {x y : Str} {gp tp p : Pos} {ty : TY} {e : PE} {v : VT} (eo : EnvOk nm vs env) (hx : env.kindOf x = some .globalImplicit) (hd : (x == ("__debug__" : Str)) = false) (hv : c.glob x = some (.builtin "isinstance"))
    (hy : env.kindOf y = some .globalImplicit) (hd' : (y == ("__debug__" : Str)) = false) (hv' : c.glob y = some (.type ty.name)) (h : SndV c A nm vs env v (emb N e)) :
    SndV c A nm vs env (.of fun ρ σ Φ => v.v ρ σ fun d σ' => ∃ t, tyS ty d σ' = some t ∧ Φ (.bool t) σ') (.Call (.Name x gp) [emb N e, .Name y tp] [] p) := by
  intro ρ σ Φ ha P s g Q E hQ
  rw [arm_eval_Call_Name']
  refine wpAny_bind (R_glob eo hx hd hv g ?_)
  refine callWith_builtin1 ?_ (emb_star N e _ env) rfl
  refine args_cons (h ρ σ _ ha P s g _ _ fun u d σ₁ s₁ hS st₁ ok₁ r₁ => ?_) (emb_star N e _ env)
  have g₁ := g.next st₁ ok₁
  refine args_cons (R_glob eo hy hd' hv' g₁ (args_nil ?_))
  obtain ⟨t, e1, h1⟩ := hS
  exact tyS_sound g₁ e1 h1 r₁ fun v d σ'' s'' a b e f => hQ v d σ'' s'' a (st₁.trans b) e f

theorem L_mmd {N : Nms} {mx : Bool} {x : Str} {gp cp kp p : Pos} {e : PE} {v : VT} (hh : A.handled = none) (eo : EnvOk nm vs env) (hx : env.kindOf x = some .globalImplicit) (hd : (x == ("__debug__" : Str)) = false) (hv : c.glob x = some (.builtin (if mx then "max" else "min")))
    (h : SndV c A nm vs env v (emb N e)) : SndV c A nm vs env (.of fun ρ σ Φ => v.v ρ σ fun d σ' => mmS mx d σ' Φ) (.Call (.Name x gp) [emb N e] [⟨some (Str.ofString "default"), .Constant .none 0 cp, kp⟩] p) := by
  intro ρ σ Φ ha P s g Q E hQ
  rw [arm_eval_Call_Name']
  refine wpAny_bind (R_glob eo hx hd hv g ?_)
  have es := emb_star N e [] env
  refine callWith_kw (kws := [⟨some (Str.ofString "default"), .Constant .none 0 cp, kp⟩]) ?_ (by rw [es]; rfl) (by rw [es]; rfl)
  refine args_cons (h ρ σ _ ha P s g _ _ fun u d σ₁ s₁ hS st₁ ok₁ r₁ => ?_) es
  have g₁ := g.next st₁ ok₁
  refine args_nil (evalAll_cons ?_)
  refine wpAny_bind (wpAny_Constant_none (wpAny_bind (wpAny_standAt (wpAny_pure (evalAll_nil ?_)))))
  exact mm_sound hh g₁ hS r₁ fun v d σ'' s'' a b e f => hQ v d σ'' s'' a (st₁.trans b) e f

theorem L_sset {N : Nms} {x y : Str} {gp gp' p' p : Pos} {e : PE} {v : VT} (hh : A.handled = none) (eo : EnvOk nm vs env) (hx : env.kindOf x = some .globalImplicit) (hd : (x == ("__debug__" : Str)) = false) (hv : c.glob x = some (.builtin "sorted"))
    (hy : env.kindOf y = some .globalImplicit) (hd' : (y == ("__debug__" : Str)) = false) (hv' : c.glob y = some (.type "set")) (h : SndV c A nm vs env v (emb N e)) :
    SndV c A nm vs env (.of fun ρ σ Φ => v.v ρ σ fun d σ' => ssetS d σ' Φ) (.Call (.Name x gp) [.Call (.Name y gp') [emb N e] [] p'] [] p) := by
  intro ρ σ Φ ha P s g Q E hQ
  rw [arm_eval_Call_Name']
  refine wpAny_bind (R_glob eo hx hd hv g ?_)
  refine callWith_builtin1 ?_ rfl rfl
  refine args_cons ?_ rfl
  rw [arm_eval_Call_Name']
  refine wpAny_bind (R_glob eo hy hd' hv' g ?_)
  refine PyProof.Rows.callWith_type1 ?_ (emb_star N e _ env) rfl
  refine args_cons (h ρ σ _ ha P s g _ _ fun u d σ₁ s₁ hS st₁ ok₁ r₁ => ?_) (emb_star N e _ env)
  have g₁ := g.next st₁ ok₁
  refine args_nil ?_
  refine wpAny_mono (sset_sound hh g₁ hS r₁ fun v d σ'' s'' a b e f => hQ v d σ'' s'' a (st₁.trans b) e f) (fun u s' h => args_nil h) fun _ _ e => e

theorem L_app {N : Nms} {ap p : Pos} {o e : PE} {x y : VT} (hl : (ap.endLine == p.line) = true) (hb : baseOk o = true) (hx : SndV c A nm vs env x (emb N o)) (hy : SndV c A nm vs env y (emb N e)) :
    SndV c A nm vs env (.of fun ρ σ Φ => x.v ρ σ fun a σ₁ => isML a σ₁ ∧ y.v ρ σ₁ fun b σ₂ => appS a b σ₂ Φ) (.Call (.Attribute (emb N o) (Str.ofString "append") ap) [emb N e] [] p) := by
  intro ρ σ Φ ha P s g Q E hQ
  rw [arm_eval_Call, emb_base N o _ _ _ hb]
  refine wpAny_bind (hx ρ σ _ ha P s g _ _ fun v₁ d₁ σ₁ s₁ h₁ st₁ ok₁ r₁ => ?_)
  have g₁ := g.next st₁ ok₁
  refine wpAny_bind (wpAny_standAt ?_)
  obtain ⟨hm, h₁⟩ := h₁
  have es := emb_star N e [] env
  unfold isML at hm
  split at hm
  · rename_i a
    obtain ⟨xs, hm⟩ := hm
    have r₁' := r₁
    simp only [Rep] at r₁
    subst r₁
    obtain ⟨us, ⟨n, ho⟩, _⟩ := g₁.st.rep a _ hm
    have hform : methodCallForm (([emb N e] : List Expr).length + ([] : List Keyword).length) (backTo p (starEach [emb N e] env)) (backToKw p (keywordEach [] env)) = true := by rw [es]; rfl
    have hpos : methodCallPos true (emb N o) env ap p = pure p := by unfold methodCallPos; simp [hl]
    unfold methodCall
    rw [hform]
    refine wpAny_bind (wpAny_holding (Calls.getMethod_list_append ho rfl rfl ?_))
    refine wpAny_bind (wpAny_of_eq hpos ?_)
    rw [show backTo p (starEach [emb N e] env) = [(false, eval (emb N e) env)] from by rw [es]; rfl]
    refine Calls.callWith_builtin rfl (Calls.evalArgs_plain (Calls.spliced_cons ?_))
    refine hy ρ σ₁ _ h₁ P s₁ g₁ _ _ fun v₂ d₂ σ₂ s₂ h₂ st₂ ok₂ r₂ => ?_
    have g₂ := g₁.next st₂ ok₂
    refine Calls.spliced_nil ?_
    exact app_sound g₂ h₂ (Rep.stay (st₂.stay P) _ _ r₁') r₂ fun v d σ'' s'' a b e f => hQ v d σ'' s'' a ((st₁.trans st₂).trans b) e f
  · exact hm.elim

/-- an optional part of a slice -/
def SndO (c : Cx) (A : Around) (nm : Nat → Str) (vs : List Nat) (env : Env) (tr : PEnv → Store → (Option D → Store → Prop) → Prop) (e : Option Expr) : Prop :=
  ∀ ρ σ Φ, tr ρ σ Φ → ∀ P s, Good c nm vs env ρ σ P s → ∀ (Q : Value → Shared → Prop) (E : Value → Shared → Prop),
    (∀ v o σ' s', Φ o σ' → Step noF σ σ' s s' → StoreOk σ' P s'.heap → ((o = Option.none ∧ v = .none) ∨ ∃ d, o = some d ∧ Rep (nd σ' P) s'.heap d v) → Q v s') → wpAny c.M A (evalPart e env) Q E s

theorem part_stay {σ σ' : Store} {P : Addr → Prop} {s s' : Shared} {o : Option D} {v : Value} (st : Step noF σ σ' s s') (h : (o = Option.none ∧ v = .none) ∨ ∃ d, o = some d ∧ Rep (nd σ P) s.heap d v) : (o = Option.none ∧ v = .none) ∨ ∃ d, o = some d ∧ Rep (nd σ' P) s'.heap d v :=
  h.imp id fun ⟨d, a, b⟩ => ⟨d, a, Rep.stay (st.stay P) _ _ b⟩

theorem L_slc {x : VT} {tl th : PEnv → Store → (Option D → Store → Prop) → Prop} {o : Expr} {lo hi : Option Expr} {m : Bool} {sp p : Pos} (hx : SndV c A nm vs env x o) (hl : SndO c A nm vs env tl lo) (hh : SndO c A nm vs env th hi) :
    SndV c A nm vs env (.of fun ρ σ Φ => x.v ρ σ fun a σ₁ => tl ρ σ₁ fun l σ₂ => th ρ σ₂ fun h σ₃ => slcS m a l h σ₃ Φ) (.Subscript o (.Slice lo hi Option.none sp) p) := by
  intro ρ σ Φ h P s g Q E hQ
  refine Subscript_ (hx ρ σ _ h P s g _ _ fun v₁ d₁ σ₁ s₁ h₁ st₁ ok₁ r₁ => ?_)
  have g₁ := g.next st₁ ok₁
  refine wpAny_Slice (hl ρ σ₁ _ h₁ P s₁ g₁ _ _ fun v₂ o₂ σ₂ s₂ h₂ st₂ ok₂ r₂ => ?_)
  have g₂ := g₁.next st₂ ok₂
  refine hh ρ σ₂ _ h₂ P s₂ g₂ _ _ fun v₃ o₃ σ₃ s₃ h₃ st₃ ok₃ r₃ => ?_
  have g₃ := g₂.next st₃ ok₃
  rw [evalPart_none]
  refine wpAny_pure ?_
  have kp := keeps_push' s₃ ({ cls := .type "slice", data := .fields #[v₂, v₃, .none] } : Obj)
  have st₄ : Step noF σ₃ σ₃ s₃ _ := Step.of_keeps kp
  have g₄ := g₃.next st₄ (g₃.st.keeps (keeps_heap kp))
  refine slcS_sound g₄ h₃ (Rep.stay (st₄.stay P) _ _ (Rep.stay (st₃.stay P) _ _ (Rep.stay (st₂.stay P) _ _ r₁))) (part_stay st₄ (part_stay st₃ r₂)) (part_stay st₄ r₃) ⟨_, Heap.get?_push_size _ rfl, rfl, rfl⟩ fun v d σ'' s'' a b e f => hQ v d σ'' s'' a ((((st₁.trans st₂).trans st₃).trans st₄).trans b) e f

theorem L_range {N : Nms} {x : Str} {gp p : Pos} {e : PE} {v : VT} (hh : A.handled = none) (eo : EnvOk nm vs env) (hx : env.kindOf x = some .globalImplicit) (hd : (x == ("__debug__" : Str)) = false) (hv : c.glob x = some (.type "range")) (h : SndV c A nm vs env v (emb N e)) :
    SndI c A nm vs env (fun ρ σ Φ => v.v ρ σ fun d σ' => match d with | .int n => n ≤ small ∧ -small ≤ n ∧ Φ .none (rangeD n) σ' | _ => False) (.Call (.Name x gp) [emb N e] [] p) := by
  intro ρ σ Φ ha P s g Q E hQ
  rw [arm_eval_Call_Name']
  refine wpAny_bind (R_glob eo hx hd hv g ?_)
  refine PyProof.Rows.callWith_type1 ?_ (emb_star N e _ env) rfl
  refine args_cons (h ρ σ _ ha P s g _ _ fun u d σ₁ s₁ hS st₁ ok₁ r₁ => ?_) (emb_star N e _ env)
  have g₁ := g.next st₁ ok₁
  cases d <;> simp only at hS
  rename_i n
  simp only [Rep] at r₁
  obtain ⟨t, rfl⟩ := r₁
  refine args_nil (call_range_1 ?_)
  have kp := keeps_push s₁ ({ cls := .type "range", data := .fields #[.int 0 s₁.toks, .int n t, .int 1 (s₁.toks + 1)] } : Obj) (s₁.toks + 1 + 1)
  exact hQ _ _ _ σ₁ _ hS.2.2 (st₁.trans (Step.of_keeps kp)) (g₁.st.keeps (keeps_heap kp)) (itv_range hh (IsRange.new _ _ _ _ _ _ _) hS.1 hS.2.1)

theorem L_of {v : VT} {e : Expr} (hh : A.handled = none) (h : SndV c A nm vs env v e) : SndI c A nm vs env (fun ρ σ Φ => v.v ρ σ fun d σ' => ∃ ds, asL σ' d = some ds ∧ Φ d ds σ') e := by
  intro ρ σ Φ ha P s g Q E hQ
  refine h ρ σ _ ha P s g _ _ fun u d σ₁ s₁ hS st₁ ok₁ r₁ => ?_
  obtain ⟨ds, e1, h1⟩ := hS
  exact hQ u d ds σ₁ s₁ h1 st₁ ok₁ (itv_seq hh ok₁ r₁ e1)
end
end Mine

open PySem PyProof.Rows
set_option Elab.async false
set_option linter.unusedVariables false
namespace Mine

theorem gOk_ok {t : Tb} {names : List (Str × NameKind)} {env : Env} {g : Nat} (h : t.gOk names g = true) (hn : Nm env names) : env.kindOf (t.N.gn g) = some .globalImplicit ∧ (t.N.gn g == ("__debug__" : Str)) = false ∧ g ∈ t.gl := by
  unfold Tb.gOk at h
  simp only [Bool.and_eq_true, Bool.not_eq_true'] at h
  exact ⟨hn.glob _ (by simpa using h.1.1), h.1.2, by simpa using h.2⟩

section
variable {c : Cx} {n : Nat} {A : Around} {t : Tb} {S : Nat → Spec} (hA : Room n A) (G : GT c n t.N t.gv S t.gl t.fns)
include hA G

mutual
theorem soundE : ∀ (e : PE) (names : List (Str × NameKind)) (vs : List Nat) (env : Env), EnvOk t.N.nm vs env → Nm env names → wf t names vs e = true →
    SndV c A t.N.nm vs env (vc S e) (emb t.N e) ∧ SndT c A t.N.nm vs env (vc S e) (emb t.N e)
  | .var i p, names, vs, env, eo, hn, hw => by
    simp only [vc, emb]
    have hv : SndV c A t.N.nm vs env (.of fun ρ σ Φ => match ρ.at i with | some d => Φ d σ | Option.none => False) (.Name (t.N.nm i) p) := by
      intro ρ σ Φ h
      simp only [VT.of] at h
      cases e : ρ.at i with
      | none => rw [e] at h; exact h.elim
      | some d => rw [e] at h; exact R_var eo e h
    exact ⟨hv, sndT_of hv fun _ => rfl⟩
  | .cint i p, names, vs, env, eo, hn, hw => by
    simp only [vc, emb]
    have hv : SndV c A t.N.nm vs env (.of fun _ σ Φ => Φ (.int i) σ) (.Constant (.int i) 0 p) := fun ρ σ Φ h => R_int h
    exact ⟨hv, sndT_of hv fun _ => rfl⟩
  | .cnone p, names, vs, env, eo, hn, hw => by
    simp only [vc, emb]
    have hv : SndV c A t.N.nm vs env (.of fun _ σ Φ => Φ .none σ) (.Constant .none 0 p) := fun ρ σ Φ h => R_none h
    exact ⟨hv, sndT_of hv fun _ => rfl⟩
  | .cbool b p, names, vs, env, eo, hn, hw => by
    simp only [vc, emb]
    have hv : SndV c A t.N.nm vs env (.of fun _ σ Φ => Φ (.bool b) σ) (.Constant (.bool b) 0 p) := fun ρ σ Φ h => R_bool h
    exact ⟨hv, sndT_of hv fun _ => rfl⟩
  | .cstr x p, names, vs, env, eo, hn, hw => by
    simp only [vc, emb]
    have hv : SndV c A t.N.nm vs env (.of fun _ σ Φ => Φ (.str x) σ) (.Constant (.str x) 0 p) := fun ρ σ Φ h => R_str h
    exact ⟨hv, sndT_of hv fun _ => rfl⟩
  | .bin op l r p, names, vs, env, eo, hn, hw => by
    simp only [wf, Bool.and_eq_true] at hw
    simp only [vc, emb]
    have hv := L_bin (op := op) (p := p) (soundE l names vs env eo hn hw.1).1 (soundE r names vs env eo hn hw.2).1
    exact ⟨hv, sndT_of hv fun _ => rfl⟩
  | .neg e p, names, vs, env, eo, hn, hw => by
    simp only [wf] at hw
    simp only [vc, emb]
    have hv := L_neg (p := p) (soundE e names vs env eo hn hw).1
    exact ⟨hv, sndT_of hv fun _ => rfl⟩
  | .not e p, names, vs, env, eo, hn, hw => by
    simp only [wf] at hw
    simp only [vc, emb]
    exact L_not (soundE e names vs env eo hn hw).1 (soundE e names vs env eo hn hw).2
  | .bop op es p, names, vs, env, eo, hn, hw => by
    simp only [wf] at hw
    simp only [vc, emb]
    have hl := soundL es names vs env eo hn hw
    exact ⟨fun ρ σ Φ h => L_bopV hl ρ σ Φ h, fun ρ σ Φ h => L_bopT hl ρ σ Φ h⟩
  | .cmp op l r p, names, vs, env, eo, hn, hw => by
    simp only [wf, Bool.and_eq_true] at hw
    simp only [vc, emb]
    exact L_cmp (units_ok hA) (emb_marks _ _ _) (soundE l names vs env eo hn hw.1).1 (soundE r names vs env eo hn hw.2).1
  | .cmp2 o₁ o₂ a b d p, names, vs, env, eo, hn, hw => by
    simp only [wf, Bool.and_eq_true] at hw
    simp only [vc, emb]
    exact L_cmp2 (units_ok hA) (emb_marks _ _ _) (soundE a names vs env eo hn hw.1.1).1 (soundE b names vs env eo hn hw.1.2).1 (soundE d names vs env eo hn hw.2).1
  | .call g gp args p, names, vs, env, eo, hn, hw => by
    simp only [wf, Bool.and_eq_true] at hw
    simp only [vc, emb]
    obtain ⟨h1, h2, h3⟩ := gOk_ok hw.1.1.1 hn
    obtain ⟨f, hf, V⟩ := G.fn g (by simpa using hw.1.1.2)
    have hv := L_call (gp := gp) (p := p) hA eo h1 h2 (by rw [G.glob g h3, hf]) V (by have := hw.1.2; intro q; rw [q] at this; simp at this) (soundL args names vs env eo hn hw.2)
    exact ⟨hv, sndT_of hv fun _ => rfl⟩
  | .bi b m g gp args p, names, vs, env, eo, hn, hw => by
    simp only [wf, Bool.and_eq_true] at hw
    simp only [vc, emb]
    obtain ⟨h1, h2, h3⟩ := gOk_ok hw.1.1.1 hn
    have hv := L_bi (m := m) (gp := gp) (p := p) (b := b) hA.1 eo h1 h2 (by rw [G.glob g h3]; congr 1; simpa using hw.1.1.2) (by have := hw.1.2; intro q; rw [q] at this; simp at this) (soundL args names vs env eo hn hw.2)
    exact ⟨hv, sndT_of hv fun _ => rfl⟩
  | .isi e ty g gp gt tp p, names, vs, env, eo, hn, hw => by
    simp only [wf, Bool.and_eq_true] at hw
    simp only [vc, emb]
    obtain ⟨h1, h2, h3⟩ := gOk_ok hw.1.1.1.1 hn
    obtain ⟨k1, k2, k3⟩ := gOk_ok hw.1.1.2 hn
    have hv := L_isi (gp := gp) (tp := tp) (p := p) (ty := ty) eo h1 h2 (by rw [G.glob g h3]; congr 1; simpa using hw.1.1.1.2) k1 k2 (by rw [G.glob gt k3]; congr 1; simpa using hw.1.2) (soundE e names vs env eo hn hw.2).1
    exact ⟨hv, sndT_of hv fun _ => rfl⟩
  | .sub o i p, names, vs, env, eo, hn, hw => by
    simp only [wf, Bool.and_eq_true] at hw
    simp only [vc, emb]
    have hv := L_sub (p := p) (emb_sub t.N i) (soundE o names vs env eo hn hw.1).1 (soundE i names vs env eo hn hw.2).1
    exact ⟨hv, sndT_of hv fun _ => rfl⟩
  | .slc m o lo hi sp p, names, vs, env, eo, hn, hw => by
    simp only [wf, Bool.and_eq_true] at hw
    simp only [vc, emb]
    have hv := L_slc (m := m) (sp := sp) (p := p) (soundE o names vs env eo hn hw.1.1).1 (soundO lo names vs env eo hn hw.1.2) (soundO hi names vs env eo hn hw.2)
    exact ⟨hv, sndT_of hv fun _ => rfl⟩
  | .list m es p, names, vs, env, eo, hn, hw => by
    simp only [wf] at hw
    simp only [vc, emb]
    have hv := L_list (m := m) (p := p) (soundL es names vs env eo hn hw)
    exact ⟨hv, sndT_of hv fun _ => rfl⟩
  | .tup es k p, names, vs, env, eo, hn, hw => by
    simp only [wf] at hw
    simp only [vc, emb]
    have hv := L_tup (k := k) (p := p) (soundL es names vs env eo hn hw)
    exact ⟨hv, sndT_of hv fun _ => rfl⟩
  | .mmd mx g gp e cp kp p, names, vs, env, eo, hn, hw => by
    simp only [wf, Bool.and_eq_true] at hw
    simp only [vc, emb]
    obtain ⟨h1, h2, h3⟩ := gOk_ok hw.1.1 hn
    have hv := L_mmd (mx := mx) (gp := gp) (cp := cp) (kp := kp) (p := p) hA.1 eo h1 h2 (by rw [G.glob g h3]; congr 1; simpa using hw.1.2) (soundE e names vs env eo hn hw.2).1
    exact ⟨hv, sndT_of hv fun _ => rfl⟩
  | .sset g gp g' gp' e p' p, names, vs, env, eo, hn, hw => by
    simp only [wf, Bool.and_eq_true] at hw
    simp only [vc, emb]
    obtain ⟨h1, h2, h3⟩ := gOk_ok hw.1.1.1.1 hn
    obtain ⟨k1, k2, k3⟩ := gOk_ok hw.1.1.2 hn
    have hv := L_sset (gp := gp) (gp' := gp') (p' := p') (p := p) hA.1 eo h1 h2 (by rw [G.glob g h3]; congr 1; simpa using hw.1.1.1.2) k1 k2 (by rw [G.glob g' k3]; congr 1; simpa using hw.1.2) (soundE e names vs env eo hn hw.2).1
    exact ⟨hv, sndT_of hv fun _ => rfl⟩
  | .app o ap e p, names, vs, env, eo, hn, hw => by
    simp only [wf, Bool.and_eq_true] at hw
    simp only [vc, emb]
    have hv := L_app (p := p) hw.1.1.1 hw.1.1.2 (soundE o names vs env eo hn hw.1.2).1 (soundE e names vs env eo hn hw.2).1
    exact ⟨hv, sndT_of hv fun _ => rfl⟩
  | .comp m elt x xp it ifs sc fr p, names, vs, env, eo, hn, hw => by
    simp only [wf, Bool.and_eq_true] at hw
    simp only [vc, emb]
    have co := compChk_ok hw.1.1.2 hn
    have hv : SndV c A t.N.nm vs env (.of fun ρ σ Φ => vcI S it ρ σ fun d ds σ₁ => ds.length ≤ small ∧
      compS (fun e σ' K => ifsT (vcL S ifs) ((ρ.only fr).put x e) σ' fun b σ'' => (b = true → (vc S elt).v ((ρ.only fr).put x e) σ'' fun r σ₃ => K (some r) σ₃) ∧ (b = false → K Option.none σ'')) (keepS d ds) ds σ₁ []
        fun out σ₂ => mkS m out σ₂ Φ) (.ListComp (emb t.N elt) [⟨.Name (t.N.nm x) xp, embI t.N it, embL t.N ifs, 0⟩] sc p) := fun ρ σ Φ h =>
      R_comp (embI_fold _ _ _) co eo (soundI it names vs env eo hn hw.1.1.1) (fun C => (soundE elt sc.names (x :: fr) _ (co.envOk eo C) (nm_block co _ C) hw.1.2).1) (fun C => soundL ifs sc.names (x :: fr) _ (co.envOk eo C) (nm_block co _ C) hw.2) h
    exact ⟨hv, sndT_of hv fun _ => rfl⟩
theorem soundL : ∀ (es : List PE) (names : List (Str × NameKind)) (vs : List Nat) (env : Env), EnvOk t.N.nm vs env → Nm env names → wfL t names vs es = true → SndL c A t.N.nm vs env (vcL S es) (embL t.N es)
  | [], names, vs, env, eo, hn, hw => by simp only [vcL, embL]; exact .nil
  | e :: r, names, vs, env, eo, hn, hw => by
    simp only [wfL, Bool.and_eq_true] at hw
    simp only [vcL, embL]
    exact .cons (soundE e names vs env eo hn hw.1).1 (soundE e names vs env eo hn hw.1).2 (soundL r names vs env eo hn hw.2)
theorem soundO : ∀ (o : Option PE) (names : List (Str × NameKind)) (vs : List Nat) (env : Env), EnvOk t.N.nm vs env → Nm env names → wfO t names vs o = true → SndO c A t.N.nm vs env (vcO S o) (embO t.N o)
  | Option.none, names, vs, env, eo, hn, hw => by
    simp only [embO]
    intro ρ σ Φ h P s g Q E hQ
    simp only [vcO] at h
    rw [evalPart_none]
    exact wpAny_pure (hQ _ _ σ s h (Step.refl _ _ _) g.st (.inl ⟨rfl, rfl⟩))
  | some e, names, vs, env, eo, hn, hw => by
    simp only [embO]
    intro ρ σ Φ h P s g Q E hQ
    simp only [vcO] at h
    simp only [wfO] at hw
    rw [evalPart_some]
    exact (soundE e names vs env eo hn hw).1 ρ σ _ h P s g _ _ fun v d σ' s' hd st ok hr => hQ v (some d) σ' s' hd st ok (.inr ⟨d, rfl, hr⟩)
theorem soundI : ∀ (it : IT) (names : List (Str × NameKind)) (vs : List Nat) (env : Env), EnvOk t.N.nm vs env → Nm env names → wfI t names vs it = true → SndI c A t.N.nm vs env (vcI S it) (embI t.N it)
  | .of e, names, vs, env, eo, hn, hw => by
    simp only [wfI] at hw
    simp only [embI]
    have := L_of hA.1 (soundE e names vs env eo hn hw).1
    intro ρ σ Φ h
    simp only [vcI] at h
    exact this ρ σ Φ h
  | .range g gp e p, names, vs, env, eo, hn, hw => by
    simp only [wfI, Bool.and_eq_true] at hw
    simp only [embI]
    obtain ⟨h1, h2, h3⟩ := gOk_ok hw.1.1 hn
    have := L_range (gp := gp) (p := p) hA.1 eo h1 h2 (by rw [G.glob g h3]; congr 1; simpa using hw.1.2) (soundE e names vs env eo hn hw.2).1
    intro ρ σ Φ h
    simp only [vcI] at h
    exact this ρ σ Φ h
end
end
end Mine

open PySem PyProof.Rows
set_option Elab.async false
set_option linter.unusedVariables false
namespace Mine

theorem swaps_no (N : Nms) (e : PE) (tg : Expr) (l : Nat) (env : Env) (h : ∀ m elt x xp it ifs sc fr p, e ≠ .comp m elt x xp it ifs sc fr p) : swapsWith (emb N e) (some tg) l env = pure false := by
  cases e <;> first | (simp only [emb]; rfl) | exact absurd rfl (h _ _ _ _ _ _ _ _ _)

section
variable {c : Cx} {A : Around} {nm : Nat → Str} {vs : List Nat} {env : Env}

theorem R_assign {x : Nat} {xp p : Pos} {value : Expr} {ρ : PEnv} {σ : Store} {Φ : Res → Prop} (eo : EnvOk nm vs env) (hx : x ∈ vs) (hs : swapsWith value (some (.Name (nm x) xp)) p.line env = pure false)
    (h : WPv c A nm vs env ρ σ (eval value env) fun d σ' => Φ (.next (ρ.put x d) σ')) : WPs c A nm vs env ρ σ (exec (.Assign [.Name (nm x) xp] value p) env) Φ := by
  intro P s g Q E hQ
  refine wpAny_Assign_Name (h P s g _ _ fun v d σ₁ s₁ hd st₁ ok₁ r₁ => ?_) hs
  refine store_sound eo hx (g.next st₁ ok₁) r₁ fun s₂ st₂ g₂ => ?_
  exact hQ .next s₂ _ hd ((st₁.weak fun _ h => h.elim).trans st₂) ⟨rfl, g₂⟩

theorem R_while {test : Expr} {body : List Stmt} {p : Pos} {vt : VT} {bt : PEnv → Store → (Res → Prop) → Prop} (ht : SndT c A nm vs env vt test) (hb : ∀ ρ σ Φ, bt ρ σ Φ → WPs c A nm vs env ρ σ (execs body env) Φ) {ρ : PEnv} {σ : Store} {Φ : Res → Prop}
    {J : Nat → PEnv → Store → Prop} {n : Nat} (h0 : J n ρ σ)
    (h : ∀ n ρ σ, J n ρ σ → vt.t ρ σ fun c σ' => (c = true → bt ρ σ' fun r => match r with
        | .next ρ'' σ'' => ∃ m, m < n ∧ J m ρ'' σ''
        | .cont ρ'' σ'' => ∃ m, m < n ∧ J m ρ'' σ''
        | .brk ρ'' σ'' => Φ (.next ρ'' σ'')
        | .ret d σ'' => Φ (.ret d σ'')) ∧ (c = false → Φ (.next ρ σ'))) : WPs c A nm vs env ρ σ (exec (.While test body [] p) env) Φ := by
  intro P s g Q E hQ
  refine wpAny_While ?_
  refine codeAny_whileLoop (fun k s' => ∃ ρ' σ', J k ρ' σ' ∧ Good c nm vs env ρ' σ' P s' ∧ Step (FrA env) σ σ' s s') ?_ n ⟨ρ, σ, h0, g, Step.refl _ _ _⟩
  rintro k s' ⟨ρ', σ', hJ, g', st'⟩
  refine ht ρ' σ' _ (h k ρ' σ' hJ) P s' g' _ _ fun b σ₁ s₁ hbv st₁ ok₁ => ?_
  have g₁ := g'.next st₁ ok₁
  have st01 := st'.trans (st₁.weak (F' := FrA env) fun _ h => h.elim)
  cases b with
  | false =>
    simp only [Bool.false_eq_true, if_false]
    exact wpAny_execs_nil (hQ .next s₁ _ (hbv.2 rfl) st01 ⟨rfl, g₁⟩)
  | true =>
    simp only [if_true]
    refine hb ρ' σ₁ _ (hbv.1 rfl) P s₁ g₁ _ _ fun f s₂ r hr st₂ ro => ?_
    have st02 := st01.trans st₂
    cases r with
    | next ρ'' σ'' =>
      obtain ⟨rfl, g₂⟩ := ro
      obtain ⟨m, hm, hJm⟩ := hr
      exact ⟨m, hm, ρ'', σ'', hJm, g₂, st02⟩
    | cont ρ'' σ'' =>
      obtain ⟨rfl, g₂⟩ := ro
      obtain ⟨m, hm, hJm⟩ := hr
      exact ⟨m, hm, ρ'', σ'', hJm, g₂, st02⟩
    | brk ρ'' σ'' =>
      obtain ⟨rfl, g₂⟩ := ro
      exact hQ .next s₂ _ hr st02 ⟨rfl, g₂⟩
    | ret d σ'' =>
      obtain ⟨u, rfl, h1, h2⟩ := ro
      exact hQ (.ret u) s₂ _ hr st02 ⟨u, rfl, h1, h2⟩

theorem R_for {x : Nat} {xp p : Pos} {iter : Expr} {body : List Stmt} {tr : PEnv → Store → (D → List D → Store → Prop) → Prop} {bt : PEnv → Store → (Res → Prop) → Prop} (hs : ∀ v, foldedSetIterable iter env v = pure v) (eo : EnvOk nm vs env) (hx : x ∈ vs)
    (hi : SndI c A nm vs env tr iter) (hb : ∀ ρ σ Φ, bt ρ σ Φ → WPs c A nm vs env ρ σ (execs body env) Φ) {ρ : PEnv} {σ : Store} {Φ : Res → Prop}
    (h : tr ρ σ fun d ds σ₁ => forS (fun e ρ' σ' Ψ => bt (ρ'.put x e) σ' Ψ) (keepS d ds) ds ρ σ₁ Φ) : WPs c A nm vs env ρ σ (exec (.For (.Name (nm x) xp) iter body [] p) env) Φ := by
  intro P s g Q E hQ
  refine wpAny_For ?_ hs
  refine hi ρ σ _ h P s g _ _ fun xv d ds σ₁ s₁ hΦ st₁ ok₁ itv => ?_
  obtain ⟨v, hr, hk, hit⟩ := itv
  have g₁ := g.next st₁ ok₁
  refine hit _ _ fun I ok It s₂ hI kp T it hok => ?_
  have st₂ : Step (FrA env) σ₁ σ₁ s₁ s₂ := Step.of_keeps kp
  have g₂ : Good c nm vs env ρ σ₁ P s₂ := g₁.next (Step.of_keeps kp) (g₁.st.keeps (keeps_heap kp))
  refine for_sound T (fun σ' s' a b e => hok σ' P s' a b e) eo hx (fun e ρ' σ' Ψ hb' => hb _ _ _ hb') g₁ hI st₂ g₂ it (hr.keeps (keeps_heap kp)) hk hΦ fun f s' r hr' st ro => ?_
  exact hQ f s' r hr' ((st₁.weak fun _ h => h.elim).trans st) ro
end

section
variable {c : Cx} {n : Nat} {A : Around} {t : Tb} {S : Nat → Spec} (hA : Room n A) (G : GT c n t.N t.gv S t.gl t.fns)
include hA G

theorem sound_assign (x : Nat) (xp : Pos) (e : PE) (p : Pos) (names : List (Str × NameKind)) (vs : List Nat) (env : Env) (eo : EnvOk t.N.nm vs env) (hn : Nm env names) (hw : wfS t names vs (.assign x xp e p) = true) (ρ : PEnv) (σ : Store) (Φ : Res → Prop)
    (h : vcS S (.assign x xp e p) ρ σ Φ) : WPs c A t.N.nm vs env ρ σ (exec (embS t.N (.assign x xp e p)) env) Φ := by
  simp only [wfS, Bool.and_eq_true] at hw
  simp only [embS]
  simp only [vcS] at h
  have hx : x ∈ vs := by simpa using hw.1
  by_cases hc : ∃ m elt y yp it ifs sc fr q, e = .comp m elt y yp it ifs sc fr q
  · obtain ⟨m, elt, y, yp, it, ifs, sc, fr, q, rfl⟩ := hc
    have hw2 := hw.2
    have hsnd := (soundE hA G (.comp m elt y yp it ifs sc fr q) names vs env eo hn hw2).1
    simp only [wf, Bool.and_eq_true] at hw2
    have co := compChk_ok hw2.1.1.2 hn
    simp only [emb] at hsnd ⊢
    obtain ⟨b, hb⟩ : ∃ b, swapsWith (.ListComp (emb t.N elt) [⟨.Name (t.N.nm y) yp, embI t.N it, embL t.N ifs, 0⟩] sc q) (some (.Name (t.N.nm x) xp)) p.line env = pure b := ⟨_, rfl⟩
    cases b with
    | true =>
      simp only [vc] at h
      exact R_assign_comp (embI_fold _ _ _) hb hx co eo (soundI hA G it names vs env eo hn hw2.1.1.1) (fun C => (soundE hA G elt sc.names (y :: fr) _ (co.envOk eo C) (nm_block co _ C) hw2.1.2).1) (fun C => soundL hA G ifs sc.names (y :: fr) _ (co.envOk eo C) (nm_block co _ C) hw2.2) h
    | false => exact R_assign eo hx hb (hsnd ρ σ _ h)
  · exact R_assign eo hx (swaps_no t.N e _ _ env fun m elt y yp it ifs sc fr q e' => hc ⟨m, elt, y, yp, it, ifs, sc, fr, q, e'⟩) ((soundE hA G e names vs env eo hn hw.2).1 ρ σ _ h)

mutual
theorem soundS : ∀ (st : PS) (names : List (Str × NameKind)) (vs : List Nat) (env : Env), EnvOk t.N.nm vs env → Nm env names → wfS t names vs st = true → ∀ ρ σ Φ, vcS S st ρ σ Φ → WPs c A t.N.nm vs env ρ σ (exec (embS t.N st) env) Φ
  | .assign x xp e p, names, vs, env, eo, hn, hw, ρ, σ, Φ, h => sound_assign hA G x xp e p names vs env eo hn hw ρ σ Φ h
  | .expr e p, names, vs, env, eo, hn, hw, ρ, σ, Φ, h => by
    simp only [wfS, Bool.and_eq_true] at hw
    simp only [embS]
    simp only [vcS] at h
    intro P s g Q E hQ
    refine wpAny_Expr ((soundE hA G e names vs env eo hn hw.2).1 ρ σ _ h P s g _ _ fun v d σ' s' hd st ok hr => ?_) (by unfold interactive; rw [eo.kind]; rfl) ?_
    · cases d <;> simp only at hd
      simp only [Rep] at hr
      subst hr
      exact hQ .next s' _ hd (st.weak fun _ h => h.elim) ⟨rfl, g.next st ok⟩
    · have := hw.1
      cases e <;> first | (simp only [emb]; rfl) | (simp [isComp] at this)
  | .ite e b o p, names, vs, env, eo, hn, hw, ρ, σ, Φ, h => by
    simp only [wfS, Bool.and_eq_true] at hw
    simp only [embS]
    simp only [vcS] at h
    intro P s g Q E hQ
    refine wpAny_If ((soundE hA G e names vs env eo hn hw.1.1).2 ρ σ _ h P s g _ _ fun d σ₁ s₁ hd st₁ ok₁ => ?_)
    have g₁ := g.next st₁ ok₁
    have k : ∀ f s' r, Φ r → Step (FrA env) σ₁ r.sto s₁ s' → ResOk c t.N.nm vs env P r f s' → Q f s' := fun f s' r hr st ro => hQ f s' r hr ((st₁.weak fun _ h => h.elim).trans st) ro
    cases d with
    | true => simp only [if_true]; exact soundSs b names vs env eo hn hw.1.2 ρ σ₁ Φ (hd.1 rfl) P s₁ g₁ Q E k
    | false => simp only [Bool.false_eq_true, if_false]; exact soundSs o names vs env eo hn hw.2 ρ σ₁ Φ (hd.2 rfl) P s₁ g₁ Q E k
  | .loop x xp it b p, names, vs, env, eo, hn, hw, ρ, σ, Φ, h => by
    simp only [wfS, Bool.and_eq_true] at hw
    simp only [embS]
    simp only [vcS] at h
    exact R_for (embI_fold _ _ _) eo (by simpa using hw.1.1) (soundI hA G it names vs env eo hn hw.1.2) (fun ρ' σ' Φ' h' => soundSs b names vs env eo hn hw.2 ρ' σ' Φ' h') h
  | .while e b p, names, vs, env, eo, hn, hw, ρ, σ, Φ, h => by
    simp only [wfS, Bool.and_eq_true] at hw
    simp only [embS]
    simp only [vcS] at h
    obtain ⟨J, k, h0, h1⟩ := h
    exact R_while (soundE hA G e names vs env eo hn hw.1).2 (fun ρ' σ' Φ' h' => soundSs b names vs env eo hn hw.2 ρ' σ' Φ' h') h0 h1
  | .ret e p, names, vs, env, eo, hn, hw, ρ, σ, Φ, h => by
    simp only [wfS] at hw
    simp only [embS]
    simp only [vcS] at h
    intro P s g Q E hQ
    exact wpAny_Return_some ((soundE hA G e names vs env eo hn hw).1 ρ σ _ h P s g _ _ fun v d σ' s' hd st ok hr => hQ (.ret v) s' _ hd (st.weak fun _ h => h.elim) ⟨v, rfl, ok, hr⟩)
theorem soundSs : ∀ (ss : List PS) (names : List (Str × NameKind)) (vs : List Nat) (env : Env), EnvOk t.N.nm vs env → Nm env names → wfSs t names vs ss = true → ∀ ρ σ Φ, vcSs S ss ρ σ Φ → WPs c A t.N.nm vs env ρ σ (execs (embSs t.N ss) env) Φ
  | [], names, vs, env, eo, hn, hw, ρ, σ, Φ, h => by
    simp only [embSs]
    simp only [vcSs] at h
    intro P s g Q E hQ
    exact wpAny_execs_nil (hQ .next s _ h (Step.refl _ _ _) ⟨rfl, g⟩)
  | st :: r, names, vs, env, eo, hn, hw, ρ, σ, Φ, h => by
    simp only [wfSs, Bool.and_eq_true] at hw
    simp only [embSs]
    simp only [vcSs] at h
    intro P s g Q E hQ
    refine wpAny_execs_cons (soundS st names vs env eo hn hw.1 ρ σ _ h P s g _ _ fun f s₁ res hres st₁ ro => ?_)
    cases res with
    | next ρ' σ' =>
      obtain ⟨rfl, g₁⟩ := ro
      exact soundSs r names vs env eo hn hw.2 ρ' σ' Φ hres P s₁ g₁ Q E fun f s' r' hr st ro => hQ f s' r' hr (st₁.trans st) ro
    | ret d σ' =>
      obtain ⟨u, rfl, h1, h2⟩ := ro
      exact hQ (.ret u) s₁ _ hres st₁ ⟨u, rfl, h1, h2⟩
    | brk ρ' σ' =>
      obtain ⟨rfl, g₁⟩ := ro
      exact hQ .brk s₁ _ hres st₁ ⟨rfl, g₁⟩
    | cont ρ' σ' =>
      obtain ⟨rfl, g₁⟩ := ro
      exact hQ .cont s₁ _ hres st₁ ⟨rfl, g₁⟩
end
end
end Mine

open PySem PyProof.Rows
set_option Elab.async false
set_option linter.unusedVariables false
namespace Mine

theorem Step.leave {F : Addr → Prop} {σ σ' : Store} {s s₁ s' : Shared} (k : Keeps s s₁) (x : Step F σ σ' s₁ s') (hf : ∀ a, F a → s.heap.get? a = Option.none) : Step noF σ σ' s s' := by
  obtain ⟨h₁, t₁, rfl, hk⟩ := k
  refine ⟨?_, fun a o e hd _ => x.keep a o (hk a o e) hd (fun q => by rw [hf a q] at e; cases e), fun a o e => x.alive a o (hk a o e), fun a ha => (x.new a ha).imp id fun e => ?_⟩
  · obtain ⟨h₂, t₂, rfl⟩ := x.same
    exact ⟨h₂, t₂, rfl⟩
  · cases q : s.heap.get? a with
    | none => rfl
    | some o => have := hk a o q; simp only at e; rw [this] at e; cases e

/-- a part of a store -/
def Sub (σ' σ : Store) : Prop := ∀ a m, σ' a = some m → σ a = some m
theorem Sub.dom {σ' σ : Store} (h : Sub σ' σ) {a : Addr} (x : dom σ' a) : Mine.dom σ a := by
  rcases x with x | ⟨y, C, fs, x⟩
  · cases e : σ' a with
    | none => exact absurd e x
    | some m => exact .inl (by rw [h a m e]; exact Option.some_ne_none m)
  · exact .inr ⟨y, C, fs, h _ _ x⟩
theorem sub_none {σ' σ : Store} (h : Sub σ' σ) {a : Addr} (e : σ a = Option.none) : σ' a = Option.none := by
  cases q : σ' a with
  | none => rfl
  | some m => rw [h _ _ q] at e; cases e
theorem StoreOk.sub {σ' σ : Store} {P : Addr → Prop} {h : Heap} (ok : StoreOk σ P h) (hs : Sub σ' σ) : StoreOk σ' P h :=
  ⟨fun a mo e => MRep.stay (fun b o items n hN ho _ => ⟨ho, fun q => hN.1 (hs.dom q), hN.2⟩) (fun _ _ _ ho => ho) (ok.rep a mo (hs a mo e)),
    fun x C dx fs e => ⟨sub_none hs (ok.apart x C dx fs (hs _ _ e)).1, fun y C' fs' e' => (ok.apart x C dx fs (hs _ _ e)).2 y C' fs' (hs _ _ e')⟩, fun a ha => ok.free a (hs.dom ha)⟩
theorem Rep.sub {σ' σ : Store} {P : Addr → Prop} {h : Heap} {d : D} {v : Value} (hs : Sub σ' σ) (x : Rep (nd σ P) h d v) : Rep (nd σ' P) h d v := Rep.stay (fun b o items n hN ho _ => ⟨ho, fun q => hN.1 (hs.dom q), hN.2⟩) _ _ x
theorem RepL.sub {σ' σ : Store} {P : Addr → Prop} {h : Heap} {d : List D} {v : List Value} (hs : Sub σ' σ) (x : RepL (nd σ P) h d v) : RepL (nd σ' P) h d v := RepL.stay (fun b o items n hN ho _ => ⟨ho, fun q => hN.1 (hs.dom q), hN.2⟩) _ _ x

/-- at a return: parts of the store are let go; a list that was the store's becomes plain -/
def Frz (d : D) (σ : Store) (d' : D) (σ' : Store) : Prop := Sub σ' σ ∧ (d' = d ∨ ∃ a ds, d = .obj a ∧ σ a = some (.mlist ds) ∧ d' = .list ds ∧ σ' a = Option.none)
theorem frz_ok {d d' : D} {σ σ' : Store} {P : Addr → Prop} {h : Heap} {v : Value} (f : Frz d σ d' σ') (ok : StoreOk σ P h) (hr : Rep (nd σ P) h d v) : StoreOk σ' P h ∧ Rep (nd σ' P) h d' v := by
  refine ⟨ok.sub f.1, ?_⟩
  rcases f.2 with rfl | ⟨a, ds, rfl, hm, rfl, hn⟩
  · exact hr.sub f.1
  · simp only [Rep] at hr ⊢
    obtain ⟨us, hl, hw⟩ := ok.rep a _ hm
    refine ⟨a, us, hr, ⟨fun q => ?_, ok.free a (.inl (by rw [hm]; exact Option.some_ne_none _))⟩, hl.isList, hw.sub f.1⟩
    rcases q with q | ⟨y, C, fs, q⟩
    · exact q hn
    · have := (ok.apart y C a fs (f.1 _ _ q)).1
      rw [hm] at this; cases this

/-- what a body's result is for the caller -/
def retS (Φ : D → Store → Prop) : Res → Prop
  | .ret d σ => ∃ d' σ', Frz d σ d' σ' ∧ Φ d' σ'
  | .next _ σ => ∃ σ', Sub σ' σ ∧ Φ .none σ'
  | _ => False

theorem Sub.refl (σ : Store) : Sub σ σ := fun _ _ e => e
theorem retS_ret {Φ : D → Store → Prop} {d : D} {σ : Store} (h : Φ d σ) : retS Φ (.ret d σ) := ⟨d, σ, ⟨Sub.refl σ, .inl rfl⟩, h⟩

/-! ### the call of a def -/
def initGo : Nat → List (Nat × D) → PEnv
  | 0, _ => []
  | k + 1, l => initGo k l ++ [l.lookup k]
/-- the frame's names at the start: parameters ps with ds, nv names in all -/
def initE (ps : List Nat) (ds : List D) (nv : Nat) : PEnv := initGo nv (ps.zip ds)

theorem at_append : ∀ (ρ ρ' : PEnv) (i : Nat) (d : D), PEnv.at (ρ ++ ρ') i = some d → (i < ρ.length ∧ ρ.at i = some d) ∨ (ρ.length ≤ i ∧ PEnv.at ρ' (i - ρ.length) = some d)
  | [], ρ', i, d, h => .inr ⟨Nat.zero_le _, by simpa using h⟩
  | e :: r, ρ', 0, d, h => .inl ⟨by simp, by simpa [PEnv.at] using h⟩
  | e :: r, ρ', i + 1, d, h => by
    have h' : PEnv.at (r ++ ρ') i = some d := by simpa [PEnv.at] using h
    rcases at_append r ρ' i d h' with ⟨a, b⟩ | ⟨a, b⟩
    · exact .inl ⟨by simp; omega, by simpa [PEnv.at] using b⟩
    · exact .inr ⟨by simp; omega, by simpa using b⟩
theorem initGo_length : ∀ k l, (initGo k l).length = k
  | 0, _ => rfl
  | k + 1, l => by simp [initGo, initGo_length k l]
theorem initGo_at : ∀ (k : Nat) (l : List (Nat × D)) (i : Nat) (d : D), (initGo k l).at i = some d → l.lookup i = some d
  | 0, l, i, d, h => by simp [initGo, PEnv.at] at h
  | k + 1, l, i, d, h => by
    simp only [initGo] at h
    rcases at_append _ _ _ _ h with ⟨a, b⟩ | ⟨a, b⟩
    · exact initGo_at k l i d b
    · rw [initGo_length] at a b
      cases hk : i - k with
      | zero =>
        rw [hk] at b
        have : i = k := by omega
        subst this
        simpa [PEnv.at] using b
      | succ j => rw [hk] at b; simp [PEnv.at] at b
theorem lookup_zip : ∀ (ps : List Nat) (ds : List D) (i : Nat) (d : D), (ps.zip ds).lookup i = some d → ∃ j : Nat, ps[j]? = some i ∧ ds[j]? = some d
  | [], ds, i, d, h => by simp at h
  | p :: ps, [], i, d, h => by simp at h
  | p :: ps, e :: ds, i, d, h => by
    rw [List.zip_cons_cons, List.lookup_cons] at h
    cases hb : i == p with
    | true =>
      rw [hb] at h
      simp at h hb
      subst h; subst hb
      exact ⟨0, rfl, rfl⟩
    | false =>
      rw [hb] at h
      obtain ⟨j, h1, h2⟩ := lookup_zip ps ds i d h
      exact ⟨j + 1, by simpa using h1, by simpa using h2⟩

theorem bindL_no {kindOf : Str → Option NameKind} {x : Str} : ∀ (binds : List (Str × Value)) (m : Str → Option Value), x ∉ binds.map (·.1) → bindL kindOf binds m x = m x
  | [], m, _ => rfl
  | (n, v) :: r, m, h => by
    simp only [List.map_cons, List.mem_cons, not_or] at h
    unfold bindL
    rw [bindL_no r _ h.2]
    split
    · exact if_neg h.1
    · rfl
theorem bindC_no {kindOf : Str → Option NameKind} {x : Str} : ∀ (binds : List (Str × Value)) (m : Str → Option Value), x ∉ binds.map (·.1) → bindC kindOf binds m x = m x
  | [], m, _ => rfl
  | (n, v) :: r, m, h => by
    simp only [List.map_cons, List.mem_cons, not_or] at h
    unfold bindC
    rw [bindC_no r _ h.2]
    split
    · rfl
    · exact if_neg h.1
theorem bindL_at {kindOf : Str → Option NameKind} {x : Str} {v : Value} (hk : kindOf x = some .local) : ∀ (binds : List (Str × Value)) (m : Str → Option Value), (binds.map (·.1)).Nodup → (x, v) ∈ binds → bindL kindOf binds m x = some v
  | (n, u) :: r, m, hnd, h => by
    have hnd' := List.nodup_cons.mp hnd
    unfold bindL
    rcases List.mem_cons.mp h with e | h1
    · cases e
      rw [bindL_no r _ hnd'.1, if_pos hk]
      simp
    · exact bindL_at hk r _ hnd'.2 h1
theorem bindC_at {kindOf : Str → Option NameKind} {x : Str} {v : Value} (hk : kindOf x = some .cell) : ∀ (binds : List (Str × Value)) (m : Str → Option Value), (binds.map (·.1)).Nodup → (x, v) ∈ binds → bindC kindOf binds m x = some v
  | (n, u) :: r, m, hnd, h => by
    have hnd' := List.nodup_cons.mp hnd
    unfold bindC
    rcases List.mem_cons.mp h with e | h1
    · cases e
      rw [bindC_no r _ hnd'.1, if_neg (by rw [hk]; decide)]
      simp
    · exact bindC_at hk r _ hnd'.2 h1

theorem cellsFrom_has {x : Str} : ∀ (names : List (Str × NameKind)) (n : Nat) (acc : List (Str × Addr)), ((x, NameKind.cell) ∈ names ∨ ∃ a, (x, a) ∈ acc) → ∃ a, (x, a) ∈ cellsFrom n names acc
  | [], n, acc, h => h.elim (fun h => by cases h) id
  | (m, k) :: r, n, acc, h => by
    unfold cellsFrom
    split
    · refine cellsFrom_has r _ _ ?_
      rcases h with h | ⟨a, h⟩
      · rcases List.mem_cons.mp h with e | h
        · cases e; exact .inr ⟨n, List.mem_cons_self⟩
        · exact .inl h
      · exact .inr ⟨a, List.mem_cons_of_mem _ h⟩
    · rename_i hk
      refine cellsFrom_has r _ _ ?_
      rcases h with h | ⟨a, h⟩
      · rcases List.mem_cons.mp h with e | h
        · cases e; exact absurd (by rfl) hk
        · exact .inl h
      · exact .inr ⟨a, h⟩

/-- the check of a def: names nm, variables vs, parameters ps -/
def fnChk (nm : Nat → Str) (vs ps : List Nat) (sc : Scope) : Bool :=
  sc.kind == .function && !sc.isGenerator && !sc.isCoroutine && decide (sc.names.map (·.1)).Nodup && decide ((vs.map nm).Nodup) && ps.all (fun i => vs.contains i) && decide ((ps.map nm).Nodup) &&
  vs.all (fun i => (sc.names.contains (nm i, .local) || sc.names.contains (nm i, .cell)) && !(nm i == ("__debug__" : Str)))

theorem inj_of_nodup {nm : Nat → Str} : ∀ {vs : List Nat}, (vs.map nm).Nodup → ∀ i ∈ vs, ∀ j ∈ vs, nm i = nm j → i = j
  | v :: r, h, i, hi, j, hj, e => by
    have h' := List.nodup_cons.mp h
    rcases List.mem_cons.mp hi with rfl | hi' <;> rcases List.mem_cons.mp hj with rfl | hj'
    · rfl
    · exact absurd (List.mem_map.mpr ⟨j, hj', e.symm⟩) h'.1
    · exact absurd (List.mem_map.mpr ⟨i, hi', e⟩) h'.1
    · exact inj_of_nodup h'.2 i hi' j hj' e

theorem fn_valid {c : Cx} {n : Nat} {t : Tb} {S : Nat → Spec} (G : GT c n t.N t.gv S t.gl t.fns) {f : Addr} {o : Obj} {fd : FuncData} {body : List PS} {vs ps : List Nat} {nv : Nat} {Sp : Spec}
    (ho : c.b.get? f = some o) (hd : o.data = .func fd) (hcd : c.b.CodeRec fd.code fd.qualname) (hbody : fd.body = .stmts (embSs t.N body)) (hclo : fd.closure = []) (hgl : fd.globals = mainGlobals) (hbu : fd.builtins = builtinsNs)
    (hchk : fnChk t.N.nm vs ps fd.scope = true) (hw : wfSs t fd.scope.names vs body = true) (hbind : ∀ us : List Value, us.length = ps.length → bindArgs fd ⟨us, []⟩ = pure ((ps.map t.N.nm).zip us))
    (hS : ∀ ds σ Φ, Sp ds σ Φ → ds.length = ps.length ∧ vcSs S body (initE ps ds nv) σ (retS Φ)) : Valid c (n + 1) f Sp := by
  refine ⟨⟨o, fd, ho, hd⟩, fun A hA ds σ Φ hSp P s us hb ok own hprot hr Q E hQ => ?_⟩
  obtain ⟨hlen, hvc⟩ := hS ds σ Φ hSp
  have hul : us.length = ps.length := hr.length.trans hlen
  unfold fnChk at hchk
  simp only [Bool.and_eq_true, Bool.not_eq_true', decide_eq_true_eq, List.all_eq_true] at hchk
  obtain ⟨⟨⟨⟨⟨⟨⟨hk1, hk2⟩, hk3⟩, hnd⟩, hvnd⟩, hps⟩, hpnd⟩, hall⟩ := hchk
  have hk1' : fd.scope.kind = .function := by simpa using hk1
  have kindOf : ∀ x k, (x, k) ∈ fd.scope.names → fd.scope.names.lookup x = some k := fun x k hm => lookup_nodup hnd hm
  have kinds : ∀ i ∈ vs, fd.scope.names.lookup (t.N.nm i) = some .local ∨ ((t.N.nm i, NameKind.cell) ∈ fd.scope.names ∧ fd.scope.names.lookup (t.N.nm i) = some .cell) := fun i hi => by
    have := (hall i hi).1
    simp only [Bool.or_eq_true] at this
    rcases this with h | h
    · exact .inl (kindOf _ _ (by simpa using h))
    · exact .inr ⟨by simpa using h, kindOf _ _ (by simpa using h)⟩
  have bnames : ((ps.map t.N.nm).zip us).map (·.1) = ps.map t.N.nm := by
    rw [List.map_fst_zip]; simp [hul]
  refine (codeAny_call_cells (by unfold recursionLimit; have := hA.2.1; omega) (hb f o ho) hd (c.hl.keeps hb) (hcd.keeps hb) hbody (hbind us hul) hclo (fun x hx => ?_) (fun s₁ X => ?_) hk3 hk2 hk1')
  · have hx1 : x.1 ∈ ps.map t.N.nm := by rw [← bnames]; exact List.mem_map_of_mem (f := fun y : Str × Value => y.1) hx
    obtain ⟨i, hi, e⟩ := List.mem_map.mp hx1
    have hiv : i ∈ vs := by simpa using hps i hi
    rw [← e]
    rcases kinds i hiv with h | ⟨h1, h2⟩
    · exact .inl h
    · refine .inr ⟨h2, ?_⟩
      obtain ⟨a, ha⟩ := cellsFrom_has fd.scope.names (s.heap.objs.size + 1) [] (.inl h1)
      obtain ⟨b, hb'⟩ := lookup_of_mem ha
      rw [hb']; rfl
  · have hkeep : ∀ b o, s.heap.get? b = some o → s₁.heap.get? b = some o := X.toInCall.keep
    have kp : Keeps s s₁ := by obtain ⟨h', tk, e, k⟩ := X.done; exact ⟨h', tk, e, k⟩
    have frN : ∀ a, FrA (callEnvC fd s.heap.objs.size f) a → s.heap.get? a = Option.none := fun a ha => by
      have hge : s.heap.objs.size ≤ a := by
        rcases ha with rfl | ⟨y, hy⟩
        · exact X.toInCall.fresh
        · exact Nat.le_of_lt (X.above y a (mem_of_lookup hy))
      cases e : s.heap.get? a with
      | none => rfl
      | some o' => exact absurd (Heap.lt_size e) (Nat.not_lt.mpr hge)
    have eo : EnvOk t.N.nm vs (callEnvC fd s.heap.objs.size f) :=
      ⟨hk1', hgl, hbu, inj_of_nodup hvnd, fun i hi => by
        rcases kinds i hi with h | ⟨h1, h2⟩
        · exact .inl h
        · refine .inr ⟨h2, ?_⟩
          obtain ⟨a, ha⟩ := cellsFrom_has fd.scope.names (s.heap.objs.size + 1) [] (.inl h1)
          exact lookup_of_mem ha, fun i hi => (hall i hi).2, X.apart⟩
    have hn : Nm (callEnvC fd s.heap.objs.size f) fd.scope.names := ⟨fun x hx => kindOf x _ hx, fun x hx => kindOf x _ hx⟩
    have g : Good c t.N.nm vs (callEnvC fd s.heap.objs.size f) (initE ps ds nv) σ P s₁ := by
      refine ⟨fun a o' e => hkeep a o' (hb a o' e), ⟨_, X.toInCall.ns⟩, fun x ca hx => ⟨_, X.cell x ca hx⟩, fun i d e => ?_, ok.keeps hkeep, fun a ha => ⟨own a ha, fun hf => ?_⟩, fun a hf => ?_, fun a ha => ?_⟩
      · obtain ⟨j, hj1, hj2⟩ := lookup_zip ps ds i d (initGo_at _ _ _ _ e)
        have hip : i ∈ ps := List.mem_of_getElem? hj1
        have hiv : i ∈ vs := by simpa using hps i hip
        obtain ⟨v, hv1, hv2⟩ := hr.get hj2
        have hmem : (t.N.nm i, v) ∈ (ps.map t.N.nm).zip us := by
          refine List.mem_of_getElem? (i := j) ?_
          rw [List.getElem?_zip_eq_some]
          exact ⟨by rw [List.getElem?_map, hj1]; rfl, hv1⟩
        refine ⟨hiv, v, ?_, hv2.keeps hkeep⟩
        rcases kinds i hiv with h | ⟨h1, h2⟩
        · exact .inl ⟨h, _, X.toInCall.ns, bindL_at h _ _ (by rw [bnames]; exact hpnd) hmem⟩
        · right
          obtain ⟨a, ha⟩ := cellsFrom_has fd.scope.names (s.heap.objs.size + 1) [] (.inl h1)
          obtain ⟨b, hb'⟩ := lookup_of_mem ha
          refine ⟨h2, b, hb', ?_⟩
          have := X.cell _ _ hb'
          rwa [bindC_at h2 _ _ (by rw [bnames]; exact hpnd) hmem] at this
      · obtain ⟨o', ho'⟩ := ok.alive ha
        rw [frN a hf] at ho'; cases ho'
      · cases e : c.b.get? a with
        | none => rfl
        | some o' => have := hb a o' e; rw [frN a hf] at this; cases this
      · obtain ⟨o', ho'⟩ := hprot a ha
        exact ⟨o', hkeep a o' ho'⟩
    refine soundSs (Room.deeper hA _) G body fd.scope.names vs _ eo hn hw _ _ _ hvc P s₁ g _ _ fun fl s' r hres st ro => ?_
    have stl := Step.leave kp st frN
    cases r with
    | next ρ' σ' =>
      obtain ⟨rfl, g'⟩ := ro
      obtain ⟨σ'', hsub, hΦ⟩ := hres
      exact hQ .none .none σ'' s' hΦ ⟨stl.same, stl.keep, stl.alive, fun a ha => stl.new a (hsub.dom ha)⟩ (g'.st.sub hsub) rep_none
    | ret d σ' =>
      obtain ⟨u, rfl, h1, h2⟩ := ro
      obtain ⟨d', σ'', hfz, hΦ⟩ := hres
      obtain ⟨k1, k2⟩ := frz_ok hfz h1 h2
      exact hQ u d' σ'' s' hΦ ⟨stl.same, stl.keep, stl.alive, fun a ha => stl.new a (hfz.1.dom ha)⟩ k1 k2
    | brk ρ' σ' => exact hres.elim
    | cont ρ' σ' => exact hres.elim
end Mine

open PySem PyProof.Rows
set_option Elab.async false
namespace Mine

/-- a list of whole numbers as data -/
abbrev dI (xs : List Int) : D := .list (xs.map D.int)

theorem forS_inv {step : D → PEnv → Store → (Res → Prop) → Prop} {keep : Store → Prop} {Φ : Res → Prop} {ds : List D} (I : Nat → PEnv → Store → Prop) (hkeep : ∀ k ρ σ, I k ρ σ → keep σ)
    (hstep : ∀ k d ρ σ (K : PEnv → Store → Prop), ds[k]? = some d → I k ρ σ → (∀ ρ' σ', I (k + 1) ρ' σ' → K ρ' σ') → step d ρ σ fun r => match r with
      | .next ρ' σ' => K ρ' σ'
      | .cont ρ' σ' => K ρ' σ'
      | .brk ρ' σ' => Φ (.next ρ' σ')
      | .ret d' σ' => Φ (.ret d' σ'))
    (hend : ∀ ρ σ, I ds.length ρ σ → Φ (.next ρ σ)) {ρ : PEnv} {σ : Store} (h0 : I 0 ρ σ) : forS step keep ds ρ σ Φ := by
  suffices H : ∀ n k ρ σ, n = ds.length - k → k ≤ ds.length → I k ρ σ → forS step keep (ds.drop k) ρ σ Φ by
    have := H ds.length 0 ρ σ rfl (Nat.zero_le _) h0
    rwa [List.drop_zero] at this
  intro n
  induction n with
  | zero =>
    intro k ρ σ hn hk hI
    have : k = ds.length := by omega
    subst this
    rw [List.drop_length]
    exact hend ρ σ hI
  | succ n ih =>
    intro k ρ σ hn hk hI
    have hlt : k < ds.length := by omega
    rw [List.drop_eq_getElem_cons hlt]
    simp only [forS]
    exact hstep k ds[k] ρ σ (fun ρ' σ' => keep σ' ∧ forS step keep (ds.drop (k + 1)) ρ' σ' Φ) (List.getElem?_eq_getElem hlt) hI fun ρ' σ' h' => ⟨hkeep _ _ _ h', ih (k + 1) ρ' σ' (by omega) hlt h'⟩

theorem compS_map {step : D → Store → (Option D → Store → Prop) → Prop} {keep : Store → Prop} {σ : Store} (f : D → Option D) (hk : keep σ) : ∀ (ds : List D) (acc : List D) {Ψ : List D → Store → Prop}, (∀ d ∈ ds, ∀ K : Option D → Store → Prop, K (f d) σ → step d σ K) →
    Ψ (acc ++ ds.filterMap f) σ → compS step keep ds σ acc Ψ
  | [], acc, Ψ, _, h => by simpa [compS] using h
  | d :: ds, acc, Ψ, hs, h => by
    simp only [compS]
    refine hs d List.mem_cons_self _ ⟨hk, compS_map f hk ds _ (fun e he => hs e (List.mem_cons_of_mem _ he)) ?_⟩
    cases e : f d with
    | none => simpa [List.filterMap_cons, e] using h
    | some y => simpa [List.filterMap_cons, e] using h

theorem filterMap_map_some {α : Type} (g : α → D) (f : D → Option D) (h : α → D) : ∀ xs : List α, (∀ x ∈ xs, f (g x) = some (h x)) → (xs.map g).filterMap f = xs.map h
  | [], _ => rfl
  | x :: r, hx => by
    rw [List.map_cons, List.filterMap_cons, hx x List.mem_cons_self, List.map_cons, filterMap_map_some g f h r fun y hy => hx y (List.mem_cons_of_mem _ hy)]

theorem iteT {p : Prop} [Decidable p] {a : Prop} (h : p) (x : a) : if p then a else False := by rw [if_pos h]; exact x
theorem and_dec {b : Bool} {X Y : Prop} (h1 : b = true → X) (h2 : b = false → Y) : (b = true → X) ∧ (b = false → Y) := ⟨h1, h2⟩
theorem and_decide {p : Prop} [Decidable p] {X Y : Prop} (h1 : p → X) (h2 : ¬ p → Y) : (decide p = true → X) ∧ (decide p = false → Y) := ⟨fun h => h1 (of_decide_eq_true h), fun h => h2 (of_decide_eq_false h)⟩
theorem and_not_decide {p : Prop} [Decidable p] {X Y : Prop} (h1 : ¬ p → X) (h2 : p → Y) : ((!decide p) = true → X) ∧ ((!decide p) = false → Y) := ⟨fun h => h1 (by simpa using h), fun h => h2 (by simpa using h)⟩
theorem and_true' {X Y : Prop} (h : X) : (true = true → X) ∧ (true = false → Y) := ⟨fun _ => h, fun e => Bool.noConfusion e⟩
theorem and_false' {X Y : Prop} (h : Y) : (false = true → X) ∧ (false = false → Y) := ⟨fun e => Bool.noConfusion e, fun _ => h⟩
theorem get_map_int {xs : List Int} {k : Nat} (h : k < xs.length) : (xs.map D.int)[k]? = some (.int xs[k]) := by rw [List.getElem?_map, List.getElem?_eq_getElem h]; rfl
theorem get_map {α : Type} (f : α → D) {xs : List α} {k : Nat} (h : k < xs.length) : (xs.map f)[k]? = some (f xs[k]) := by rw [List.getElem?_map, List.getElem?_eq_getElem h]; rfl
theorem small_ok {n : Nat} (h : n ≤ 100000) : n ≤ small := by unfold small; omega
end Mine

open PySem PyProof.Rows
set_option Elab.async false
namespace Mine

/-- plain data without truth values, nested at most so deep -/
def pl : Nat → D → Prop
  | _, .none => True
  | _, .int _ => True
  | n + 1, .list xs => ∀ x ∈ xs, pl n x
  | n + 1, .tuple xs => ∀ x ∈ xs, pl n x
  | _, _ => False

theorem pys_ok {n : Nat} (ih : ∀ d, pl n d → ∃ x, D.py d = some x ∧ x.canLay0 = true ∧ x.depth ≤ n) : ∀ xs : List D, (∀ x ∈ xs, pl n x) → ∃ ys, D.pys xs = some ys ∧ PyData.canLayAll0 ys = true ∧ PyData.depthAll ys ≤ n
  | [], _ => ⟨[], rfl, rfl, by simp [PyData.depthAll]⟩
  | d :: ds, h => by
    obtain ⟨x, e, c, p⟩ := ih d (h d List.mem_cons_self)
    obtain ⟨ys, e', c', p'⟩ := pys_ok ih ds fun y hy => h y (List.mem_cons_of_mem _ hy)
    refine ⟨x :: ys, by rw [D.pys, e, e']; rfl, by rw [PyData.canLayAll0, c, c']; rfl, ?_⟩
    rw [PyData.depthAll]; omega
theorem pl_py : ∀ (n : Nat) (d : D), pl n d → ∃ x, D.py d = some x ∧ x.canLay0 = true ∧ x.depth ≤ n
  | _, .none, _ => ⟨.none, rfl, rfl, by simp [PyData.depth]⟩
  | _, .int i, _ => ⟨.int i, rfl, rfl, by simp [PyData.depth]⟩
  | n + 1, .list xs, h => by
    obtain ⟨ys, e, c, p⟩ := pys_ok (pl_py n) xs h
    refine ⟨.list ys, by rw [D.py, e]; rfl, by rw [PyData.canLay0]; exact c, ?_⟩
    rw [PyData.depth]; omega
  | n + 1, .tuple xs, h => by
    obtain ⟨ys, e, c, p⟩ := pys_ok (pl_py n) xs h
    refine ⟨.tuple ys, by rw [D.py, e]; rfl, by rw [PyData.canLay0]; exact c, ?_⟩
    rw [PyData.depth]; omega
  | 0, .list _, h => h.elim
  | 0, .tuple _, h => h.elim
  | 0, .bool _, h => h.elim
  | n + 1, .bool _, h => h.elim
  | 0, .str _, h => h.elim
  | n + 1, .str _, h => h.elim
  | 0, .obj _, h => h.elim
  | n + 1, .obj _, h => h.elim

theorem pys_eqv {n : Nat} (ih : ∀ m d e x y, pl n d → pl m e → D.py d = some x → D.py e = some y → (PyData.eqv x y = true ↔ d = e)) {m : Nat} : ∀ (ds es : List D) (xs ys : List PyData), (∀ d ∈ ds, pl n d) → (∀ e ∈ es, pl m e) → D.pys ds = some xs → D.pys es = some ys → (PyData.eqvAll xs ys = true ↔ ds = es)
  | [], [], xs, ys, _, _, e, e' => by cases e; cases e'; simp [PyData.eqvAll]
  | [], d :: es, xs, ys, _, h, e, e' => by
    cases e
    obtain ⟨x, q, _⟩ := pl_py m d (h d List.mem_cons_self)
    obtain ⟨zs, q', _⟩ := pys_ok (pl_py m) es fun y hy => h y (List.mem_cons_of_mem _ hy)
    rw [D.pys, q, q'] at e'
    cases e'
    simp [PyData.eqvAll]
  | d :: ds, [], xs, ys, h, _, e, e' => by
    cases e'
    obtain ⟨x, q, _⟩ := pl_py n d (h d List.mem_cons_self)
    obtain ⟨zs, q', _⟩ := pys_ok (pl_py n) ds fun y hy => h y (List.mem_cons_of_mem _ hy)
    rw [D.pys, q, q'] at e
    cases e
    simp [PyData.eqvAll]
  | d :: ds, f :: es, xs, ys, h, h', e, e' => by
    obtain ⟨x, q, _⟩ := pl_py n d (h d List.mem_cons_self)
    obtain ⟨zs, q', _⟩ := pys_ok (pl_py n) ds fun y hy => h y (List.mem_cons_of_mem _ hy)
    obtain ⟨x2, q2, _⟩ := pl_py m f (h' f List.mem_cons_self)
    obtain ⟨zs2, q2', _⟩ := pys_ok (pl_py m) es fun y hy => h' y (List.mem_cons_of_mem _ hy)
    have i1 := ih m d f x x2 (h d List.mem_cons_self) (h' f List.mem_cons_self) q q2
    have i2 := pys_eqv ih ds es zs zs2 (fun y hy => h y (List.mem_cons_of_mem _ hy)) (fun y hy => h' y (List.mem_cons_of_mem _ hy)) q' q2'
    rw [D.pys, q, q'] at e
    rw [D.pys, q2, q2'] at e'
    cases e; cases e'
    rw [PyData.eqvAll, Bool.and_eq_true, i1, i2, List.cons.injEq]

theorem pl_seq {m : Nat} {xs : List D} (h : pl m (.list xs) ∨ pl m (.tuple xs)) : ∃ k, m = k + 1 ∧ ∀ x ∈ xs, pl k x := by
  cases m with
  | zero => exact h.elim (fun q => q.elim) (fun q => q.elim)
  | succ k => exact ⟨k, rfl, h.elim id id⟩
theorem py_list {xs : List D} {y : PyData} (h : D.py (.list xs) = some y) : ∃ ys, D.pys xs = some ys ∧ y = .list ys := by
  rw [D.py] at h
  cases e : D.pys xs with
  | none => rw [e] at h; cases h
  | some ys => rw [e] at h; cases h; exact ⟨ys, rfl, rfl⟩
theorem py_tuple {xs : List D} {y : PyData} (h : D.py (.tuple xs) = some y) : ∃ ys, D.pys xs = some ys ∧ y = .tuple ys := by
  rw [D.py] at h
  cases e : D.pys xs with
  | none => rw [e] at h; cases h
  | some ys => rw [e] at h; cases h; exact ⟨ys, rfl, rfl⟩
theorem pl_not_bool {n : Nat} {b : Bool} : ¬ pl n (.bool b) := by cases n <;> exact id
theorem pl_not_str {n : Nat} {b : Str} : ¬ pl n (.str b) := by cases n <;> exact id
theorem pl_not_obj {n : Nat} {b : Addr} : ¬ pl n (.obj b) := by cases n <;> exact id

theorem pl_eqv : ∀ (n m : Nat) (d e : D) (x y : PyData), pl n d → pl m e → D.py d = some x → D.py e = some y → (PyData.eqv x y = true ↔ d = e) := by
  intro n
  induction n with
  | zero =>
    intro m d e x y hd he px py
    cases d with
    | none =>
      cases px
      cases e with
      | none => cases py; simp [PyData.eqv]
      | int j => cases py; simp [PyData.eqv]
      | list xs => obtain ⟨ys, _, rfl⟩ := py_list py; simp [PyData.eqv]
      | tuple xs => obtain ⟨ys, _, rfl⟩ := py_tuple py; simp [PyData.eqv]
      | bool b => exact (pl_not_bool he).elim
      | str b => exact (pl_not_str he).elim
      | obj b => exact (pl_not_obj he).elim
    | int i =>
      cases px
      cases e with
      | none => cases py; simp [PyData.eqv]
      | int j => cases py; simp [PyData.eqv]
      | list xs => obtain ⟨ys, _, rfl⟩ := py_list py; simp [PyData.eqv]
      | tuple xs => obtain ⟨ys, _, rfl⟩ := py_tuple py; simp [PyData.eqv]
      | bool b => exact (pl_not_bool he).elim
      | str b => exact (pl_not_str he).elim
      | obj b => exact (pl_not_obj he).elim
    | list xs => exact hd.elim
    | tuple xs => exact hd.elim
    | bool b => exact hd.elim
    | str b => exact hd.elim
    | obj b => exact hd.elim
  | succ n ih =>
    intro m d e x y hd he px py
    cases d with
    | none =>
      cases px
      cases e with
      | none => cases py; simp [PyData.eqv]
      | int j => cases py; simp [PyData.eqv]
      | list xs => obtain ⟨ys, _, rfl⟩ := py_list py; simp [PyData.eqv]
      | tuple xs => obtain ⟨ys, _, rfl⟩ := py_tuple py; simp [PyData.eqv]
      | bool b => exact (pl_not_bool he).elim
      | str b => exact (pl_not_str he).elim
      | obj b => exact (pl_not_obj he).elim
    | int i =>
      cases px
      cases e with
      | none => cases py; simp [PyData.eqv]
      | int j => cases py; simp [PyData.eqv]
      | list xs => obtain ⟨ys, _, rfl⟩ := py_list py; simp [PyData.eqv]
      | tuple xs => obtain ⟨ys, _, rfl⟩ := py_tuple py; simp [PyData.eqv]
      | bool b => exact (pl_not_bool he).elim
      | str b => exact (pl_not_str he).elim
      | obj b => exact (pl_not_obj he).elim
    | list xs =>
      obtain ⟨xs', px', rfl⟩ := py_list px
      cases e with
      | none => cases py; simp [PyData.eqv]
      | int j => cases py; simp [PyData.eqv]
      | list ys =>
        obtain ⟨ys', py', rfl⟩ := py_list py
        obtain ⟨k, _, hk⟩ := pl_seq (.inl he)
        rw [PyData.eqv, pys_eqv ih xs ys xs' ys' hd hk px' py', D.list.injEq]
      | tuple ys => obtain ⟨ys, _, rfl⟩ := py_tuple py; simp [PyData.eqv]
      | bool b => exact (pl_not_bool he).elim
      | str b => exact (pl_not_str he).elim
      | obj b => exact (pl_not_obj he).elim
    | tuple xs =>
      obtain ⟨xs', px', rfl⟩ := py_tuple px
      cases e with
      | none => cases py; simp [PyData.eqv]
      | int j => cases py; simp [PyData.eqv]
      | tuple ys =>
        obtain ⟨ys', py', rfl⟩ := py_tuple py
        obtain ⟨k, _, hk⟩ := pl_seq (.inr he)
        rw [PyData.eqv, pys_eqv ih xs ys xs' ys' hd hk px' py', D.tuple.injEq]
      | list ys => obtain ⟨ys, _, rfl⟩ := py_list py; simp [PyData.eqv]
      | bool b => exact (pl_not_bool he).elim
      | str b => exact (pl_not_str he).elim
      | obj b => exact (pl_not_obj he).elim
    | bool b => exact hd.elim
    | str b => exact hd.elim
    | obj b => exact hd.elim

theorem pl_shaped {d : D} (h : pl 20 d) : ∃ x, D.py d = some x ∧ SeqAt.shaped x = true := by
  obtain ⟨x, e, c, p⟩ := pl_py 20 d h
  refine ⟨x, e, ?_⟩
  show (x.canLay0 && decide (x.depth ≤ 64)) = true
  rw [c, decide_eq_true (by omega)]; rfl
theorem pl_eqP {d : D} {σ : Store} (h : pl 20 d) : eqP σ d = D.py d := by
  cases d with
  | obj a => exact h.elim
  | _ => rfl
/-- equality of plain data is equality -/
theorem eqS {a b : D} {σ σ' : Store} {Φ : D → Store → Prop} (ha : pl 20 a) (hb : pl 20 b) (h : ∀ t : Bool, (t = true ↔ a = b) → Φ (.bool t) σ') :
    ∃ x y, eqP σ a = some x ∧ eqP σ b = some y ∧ SeqAt.shaped x = true ∧ SeqAt.shaped y = true ∧ Φ (.bool (PyData.eqv x y)) σ' := by
  obtain ⟨x, e, c⟩ := pl_shaped ha
  obtain ⟨y, e', c'⟩ := pl_shaped hb
  exact ⟨x, y, (pl_eqP ha).trans e, (pl_eqP hb).trans e', c, c', h _ (pl_eqv 20 20 a b x y ha hb e e')⟩
theorem neS {a b : D} {σ σ' : Store} {Φ : D → Store → Prop} (ha : pl 20 a) (hb : pl 20 b) (h : ∀ t : Bool, (t = true ↔ a = b) → Φ (.bool (!t)) σ') :
    ∃ x y, eqP σ a = some x ∧ eqP σ b = some y ∧ SeqAt.shaped x = true ∧ SeqAt.shaped y = true ∧ Φ (.bool (!PyData.eqv x y)) σ' := by
  obtain ⟨x, e, c⟩ := pl_shaped ha
  obtain ⟨y, e', c'⟩ := pl_shaped hb
  exact ⟨x, y, (pl_eqP ha).trans e, (pl_eqP hb).trans e', c, c', h _ (pl_eqv 20 20 a b x y ha hb e e')⟩
theorem eqS_same {a : D} {σ σ' : Store} {Φ : D → Store → Prop} (ha : pl 20 a) (h : Φ (.bool true) σ') :
    ∃ x y, eqP σ a = some x ∧ eqP σ a = some y ∧ SeqAt.shaped x = true ∧ SeqAt.shaped y = true ∧ Φ (.bool (PyData.eqv x y)) σ' :=
  eqS ha ha fun t ht => by rw [ht.mpr rfl]; exact h
theorem neS_same {a : D} {σ σ' : Store} {Φ : D → Store → Prop} (ha : pl 20 a) (h : Φ (.bool false) σ') :
    ∃ x y, eqP σ a = some x ∧ eqP σ a = some y ∧ SeqAt.shaped x = true ∧ SeqAt.shaped y = true ∧ Φ (.bool (!PyData.eqv x y)) σ' :=
  neS ha ha fun t ht => by rw [ht.mpr rfl]; exact h
theorem pl2 {a b : D} (σ : Store) (ha : pl 20 a) (hb : pl 20 b) : ∃ x y t, eqP σ a = some x ∧ eqP σ b = some y ∧ SeqAt.shaped x = true ∧ SeqAt.shaped y = true ∧ PyData.eqv x y = t ∧ (t = true ↔ a = b) := by
  obtain ⟨x, e, c⟩ := pl_shaped ha
  obtain ⟨y, e', c'⟩ := pl_shaped hb
  exact ⟨x, y, _, (pl_eqP ha).trans e, (pl_eqP hb).trans e', c, c', rfl, pl_eqv 20 20 a b x y ha hb e e'⟩
theorem pl1 {a : D} (σ : Store) (ha : pl 20 a) : ∃ x, eqP σ a = some x ∧ SeqAt.shaped x = true ∧ PyData.eqv x x = true := by
  obtain ⟨x, e, c⟩ := pl_shaped ha
  exact ⟨x, (pl_eqP ha).trans e, c, (pl_eqv 20 20 a a x x ha ha e e).mpr rfl⟩
theorem pl_ints {n : Nat} (xs : List Int) : pl (n + 1) (dI xs) := by
  intro x hx
  obtain ⟨i, _, rfl⟩ := List.mem_map.mp hx
  cases n <;> exact trivial
theorem pl_list {n : Nat} {α : Type} (f : α → D) (xs : List α) (h : ∀ x ∈ xs, pl n (f x)) : pl (n + 1) (.list (xs.map f)) := by
  intro x hx
  obtain ⟨i, hi, rfl⟩ := List.mem_map.mp hx
  exact h i hi
theorem pl_rows {n : Nat} (xs : List (List Int)) : pl (n + 2) (.list (xs.map dI)) := pl_list dI xs fun _ _ => pl_ints _

/-- what a falling test leaves is a beginning -/
theorem filter_prefix {α : Type} (p : α → Bool) : ∀ (l : List α), l.Pairwise (fun a b => p b = true → p a = true) → ∀ (i : Nat) (hi : i < l.length), p l[i] = decide (i < (l.filter p).length)
  | [], _, i, hi => by simp at hi
  | a :: r, h, i, hi => by
    rw [List.pairwise_cons] at h
    cases e : p a with
    | true =>
      rw [List.filter_cons_of_pos e, List.length_cons]
      cases i with
      | zero => simpa using e
      | succ i =>
        simp only [List.getElem_cons_succ]
        rw [filter_prefix p r h.2 i (by simpa using hi)]
        simp
    | false =>
      have hr : ∀ b ∈ r, p b = false := fun b hb => by
        cases q : p b with
        | false => rfl
        | true => rw [h.1 b hb q] at e; cases e
      have : (a :: r).filter p = [] := List.filter_eq_nil_iff.mpr fun b hb => by
        rcases List.mem_cons.mp hb with rfl | hb
        · simp [e]
        · simp [hr b hb]
      rw [this]
      cases i with
      | zero => simpa using e
      | succ i => simp only [List.getElem_cons_succ]; rw [hr _ (List.getElem_mem _)]; simp
end Mine

open PySem PySem.W PyProof.Rows
set_option Elab.async false
namespace Mine
theorem globF {c : Cx} {x : Str} {v : Value} (h : c.mg x = some v) : c.glob x = some v := by rw [Cx.glob, h]; rfl
theorem globB {c : Cx} {x : Str} {v : Value} (h : c.mg x = none) (B : ∀ x : Str, x ≠ "__name__" → c.mb x = bootBuiltins x) (hx : x ≠ "__name__") (e : bootBuiltins x = some v) : c.glob x = some v := by
  rw [Cx.glob, h, B x hx, e]; rfl
theorem repL_ints {N : Addr → Prop} {h : Heap} : ∀ {vs : List Value} {ns : List Int}, IntsAre vs ns → RepL N h (ns.map D.int) vs
  | _, _, .nil => .nil
  | _, _, .cons n t r => .cons (by simp only [Rep]; exact ⟨t, rfl⟩) (repL_ints r)
def noS : Store := fun _ => none
theorem noS_dom {a : Addr} : ¬ dom noS a := by
  rintro (h | ⟨x, C, fs, h⟩)
  · exact h rfl
  · cases h
theorem storeOk_no {P : Addr → Prop} {h : Heap} : StoreOk noS P h := ⟨fun a mo e => (by cases e), fun x C dx fs e => (by cases e), fun a ha => (noS_dom ha).elim⟩

/-- a law that is valid keeps its row's claim -/
theorem law_good {c : Cx} {n : Nat} {f : Addr} {Sp : Spec} (V : Valid c n f Sp) {s₁ : Shared} (hb : c.b = s₁.heap) (hn : Room n callerA) {a : Addr} {vs : List Value} {ns : List Int} (hL : s₁.heap.IsList a vs.toArray) (hI : IntsAre vs ns) (hg : s₁.gens = #[])
    (hS : Sp [dI ns] noS (fun d _ => d = .bool true)) {cl : ClaimW} {ca : Str → Option Addr} {mean : ExcName → Option Value} {args : List WData} (hr : ∀ x, cl.raises args x = false) (hp : cl.post args (.bool true) args = true) :
    codeAny c.M callerA (.call (.ref f) ⟨[.ref a], []⟩) (GoodWG cl ca mean args s₁) s₁ := by
  refine codeAny_mono (R := fun r s' => GoodW cl ca mean args s₁ r s') ?_ (fun _ _ g => GoodW.toG g)
  have := V.call callerA hn [dI ns] noS _ hS (fun _ => False) s₁ [.ref a] (fun a o e => by rw [hb] at e; exact e) storeOk_no (fun a ha => (noS_dom ha).elim) (fun a ha => ha.elim)
    (.one (by simp only [Rep]; exact ⟨a, vs.toArray, rfl, ⟨noS_dom, id⟩, hL, by simpa using repL_ints hI⟩))
    (fun v s' => GoodW cl ca mean args s₁ (.ok (.ret v)) s') (fun e s' => GoodW cl ca mean args s₁ (.error e) s') (fun v d σ' s' hd st ok hr' => ?_)
  · refine codeAny_mono this fun r s' h => ?_
    match r, h with
    | .ok (.ret v), h => exact h
    | .error e, h => exact h
  · subst hd
    simp only [Rep] at hr'
    subst hr'
    obtain ⟨h', tk, rfl⟩ := st.same
    exact ⟨.inl ⟨.bool true, .bool true, [], rfl, hr, .bool true, hp, fun _ => ⟨List.nodup_nil, fun a ha => by cases ha⟩⟩, fun b o e => st.keep b o e noS_dom id, rfl, hg⟩
end Mine

open PySem PyProof.Rows
set_option Elab.async false
namespace Mine
theorem compS_mapG {α : Type} {step : D → Store → (Option D → Store → Prop) → Prop} {keep : Store → Prop} {σ : Store} (g : α → D) (f : α → Option D) (hk : keep σ) : ∀ (l : List α) (acc : List D) {Ψ : List D → Store → Prop}, (∀ x ∈ l, ∀ K : Option D → Store → Prop, K (f x) σ → step (g x) σ K) →
    Ψ (acc ++ l.filterMap f) σ → compS step keep (l.map g) σ acc Ψ
  | [], acc, Ψ, _, h => by simpa [compS] using h
  | d :: ds, acc, Ψ, hs, h => by
    simp only [List.map_cons, compS]
    refine hs d List.mem_cons_self _ ⟨hk, compS_mapG g f hk ds _ (fun e he => hs e (List.mem_cons_of_mem _ he)) ?_⟩
    cases e : f d with
    | none => simpa [List.filterMap_cons, e] using h
    | some y => simpa [List.filterMap_cons, e] using h
theorem set_at (σ : Store) (a : Addr) (m : MObj) : (σ.set a m) a = some m := by unfold Store.set; rw [if_pos rfl]
theorem set_set (σ : Store) (a : Addr) (m n : MObj) : (σ.set a m).set a n = σ.set a n := by
  funext x
  unfold Store.set
  by_cases h : x = a
  · rw [if_pos h, if_pos h]
  · rw [if_neg h, if_neg h, if_neg h]
theorem retS_frz {Φ : D → Store → Prop} {a : Addr} {σ : Store} {ds : List D} (hf : freshIn σ a) (h : Φ (.list ds) σ) : retS Φ (.ret (.obj a) (σ.set a (.mlist ds))) := by
  refine ⟨.list ds, σ, ⟨fun x m e => ?_, .inr ⟨a, ds, rfl, set_at _ _ _, rfl, hf.1⟩⟩, h⟩
  unfold Store.set
  by_cases q : x = a
  · subst q; rw [hf.1] at e; cases e
  · rw [if_neg q]; exact e
theorem and_tt {X Y : Prop} (h : X) : (true = true → X) ∧ (true = false → Y) := ⟨fun _ => h, fun e => Bool.noConfusion e⟩
theorem and_ff {X Y : Prop} (h : Y) : (false = true → X) ∧ (false = false → Y) := ⟨fun e => Bool.noConfusion e, fun _ => h⟩
theorem and_ff' {X Y : Prop} (h : Y) : (true = false → X) ∧ (true = true → Y) := ⟨fun e => Bool.noConfusion e, fun _ => h⟩
theorem and_tf' {X Y : Prop} (h : X) : (false = false → X) ∧ (false = true → Y) := ⟨fun _ => h, fun e => Bool.noConfusion e⟩
theorem filterMap_int {α : Type} (f : α → Option Int) : ∀ l : List α, (l.filterMap fun x => (f x).map D.int) = (l.filterMap f).map D.int
  | [] => rfl
  | x :: r => by
    rw [List.filterMap_cons, List.filterMap_cons]
    cases e : f x with
    | none => simp only [Option.map_none]; exact filterMap_int f r
    | some i => simp only [Option.map_some, List.map_cons]; rw [filterMap_int f r]
end Mine

open PySem PyProof.Rows
set_option Elab.async false
namespace Mine.L03
set_option maxRecDepth 100000
set_option maxHeartbeats 4000000
def nm_merged : Nat → Str
  | 0 => PySem.Str.ofString "wish"
  | 1 => PySem.Str.ofString "found"
  | 2 => PySem.Str.ofString "column"
  | 3 => PySem.Str.ofString "lows"
  | 4 => PySem.Str.ofString "highs"
  | 5 => PySem.Str.ofString "triple"
  | 6 => PySem.Str.ofString "triple"
  | 7 => PySem.Str.ofString "triple"
  | _ => ""

def p_merged : List PS := [.assign 1 ⟨3, 4, 3, 9⟩ (.list true [] ⟨3, 12, 3, 14⟩) ⟨3, 4, 3, 14⟩,
    .loop 2 ⟨4, 8, 4, 14⟩ (.of (.sset 0 ⟨4, 18, 4, 24⟩ 1 ⟨4, 25, 4, 28⟩ (.comp false (.sub (.var 5 ⟨4, 30, 4, 36⟩) (.cint 0 ⟨4, 37, 4, 38⟩) ⟨4, 30, 4, 39⟩) 5 ⟨4, 44, 4, 50⟩ (.of (.var 0 ⟨4, 54, 4, 58⟩)) [] { kind := .function, names := [(PySem.Str.ofString ".0", .local), (PySem.Str.ofString "triple", .local)], isGenerator := false, isCoroutine := false, more := [] } [] ⟨4, 29, 4, 59⟩) ⟨4, 25, 4, 60⟩ ⟨4, 18, 4, 61⟩)) [.assign 3 ⟨5, 8, 5, 12⟩ (.comp false (.sub (.var 6 ⟨5, 16, 5, 22⟩) (.cint 1 ⟨5, 23, 5, 24⟩) ⟨5, 16, 5, 25⟩) 6 ⟨5, 30, 5, 36⟩ (.of (.var 0 ⟨5, 40, 5, 44⟩)) [(.bop .And [(.cmp .Eq (.sub (.var 6 ⟨5, 48, 5, 54⟩) (.cint 0 ⟨5, 55, 5, 56⟩) ⟨5, 48, 5, 57⟩) (.var 2 ⟨5, 61, 5, 67⟩) ⟨5, 48, 5, 67⟩), (.cmp .IsNot (.sub (.var 6 ⟨5, 72, 5, 78⟩) (.cint 1 ⟨5, 79, 5, 80⟩) ⟨5, 72, 5, 81⟩) (.cnone ⟨5, 89, 5, 93⟩) ⟨5, 72, 5, 93⟩)] ⟨5, 48, 5, 93⟩)] { kind := .function, names := [(PySem.Str.ofString ".0", .local), (PySem.Str.ofString "triple", .local), (PySem.Str.ofString "column", .free)], isGenerator := false, isCoroutine := false, more := [] } [2] ⟨5, 15, 5, 94⟩) ⟨5, 8, 5, 94⟩,
    .assign 4 ⟨6, 8, 6, 13⟩ (.comp false (.sub (.var 7 ⟨6, 17, 6, 23⟩) (.cint 2 ⟨6, 24, 6, 25⟩) ⟨6, 17, 6, 26⟩) 7 ⟨6, 31, 6, 37⟩ (.of (.var 0 ⟨6, 41, 6, 45⟩)) [(.bop .And [(.cmp .Eq (.sub (.var 7 ⟨6, 49, 6, 55⟩) (.cint 0 ⟨6, 56, 6, 57⟩) ⟨6, 49, 6, 58⟩) (.var 2 ⟨6, 62, 6, 68⟩) ⟨6, 49, 6, 68⟩), (.cmp .IsNot (.sub (.var 7 ⟨6, 73, 6, 79⟩) (.cint 2 ⟨6, 80, 6, 81⟩) ⟨6, 73, 6, 82⟩) (.cnone ⟨6, 90, 6, 94⟩) ⟨6, 73, 6, 94⟩)] ⟨6, 49, 6, 94⟩)] { kind := .function, names := [(PySem.Str.ofString ".0", .local), (PySem.Str.ofString "triple", .local), (PySem.Str.ofString "column", .free)], isGenerator := false, isCoroutine := false, more := [] } [2] ⟨6, 16, 6, 95⟩) ⟨6, 8, 6, 95⟩,
    .expr (.app (.var 1 ⟨7, 8, 7, 13⟩) ⟨7, 8, 7, 20⟩ (.tup [(.var 2 ⟨7, 22, 7, 28⟩), (.mmd true 2 ⟨7, 30, 7, 33⟩ (.var 3 ⟨7, 34, 7, 38⟩) ⟨7, 48, 7, 52⟩ ⟨7, 40, 7, 52⟩ ⟨7, 30, 7, 53⟩), (.mmd false 3 ⟨7, 55, 7, 58⟩ (.var 4 ⟨7, 59, 7, 64⟩) ⟨7, 74, 7, 78⟩ ⟨7, 66, 7, 78⟩ ⟨7, 55, 7, 79⟩)] 0 ⟨7, 21, 7, 80⟩) ⟨7, 8, 7, 81⟩) ⟨7, 8, 7, 81⟩] ⟨4, 4, 7, 81⟩,
    .ret (.var 1 ⟨8, 11, 8, 16⟩) ⟨8, 4, 8, 16⟩]

def nm_law_whole : Nat → Str
  | 0 => PySem.Str.ofString "_law_found"
  | _ => ""

def p_law_whole : List PS := [.ret (.bop .And [(.isi (.var 0 ⟨11, 22, 11, 32⟩) .int 4 ⟨11, 11, 11, 21⟩ 5 ⟨11, 34, 11, 37⟩ ⟨11, 11, 11, 38⟩), (.not (.isi (.var 0 ⟨11, 59, 11, 69⟩) .bool 4 ⟨11, 48, 11, 58⟩ 6 ⟨11, 71, 11, 75⟩ ⟨11, 48, 11, 76⟩) ⟨11, 44, 11, 76⟩)] ⟨11, 11, 11, 77⟩) ⟨11, 4, 11, 77⟩]

def nm_law_at : Nat → Str
  | 0 => PySem.Str.ofString "_law_script"
  | 1 => PySem.Str.ofString "_law_k"
  | _ => ""

def p_law_at : List PS := [.ite (.cmp .Lt (.var 1 ⟨13, 7, 13, 13⟩) (.bi .len false 7 ⟨13, 16, 13, 19⟩ [(.var 0 ⟨13, 20, 13, 31⟩)] ⟨13, 16, 13, 32⟩) ⟨13, 7, 13, 32⟩) [.ret (.sub (.var 0 ⟨14, 15, 14, 26⟩) (.var 1 ⟨14, 27, 14, 33⟩) ⟨14, 15, 14, 34⟩) ⟨14, 8, 14, 34⟩] [] ⟨13, 4, 14, 34⟩,
    .ret (.cint 0 ⟨15, 11, 15, 12⟩) ⟨15, 4, 15, 12⟩]

def nm_law_value : Nat → Str
  | 0 => PySem.Str.ofString "_law_cell"
  | _ => ""

def p_law_value : List PS := [.ite (.cmp .Eq (.bin .Mod (.var 0 ⟨17, 7, 17, 16⟩) (.cint 8 ⟨17, 19, 17, 20⟩) ⟨17, 7, 17, 20⟩) (.cint 0 ⟨17, 24, 17, 25⟩) ⟨17, 7, 17, 25⟩) [.ret (.bin .Sub (.bin .Mod (.bin .FloorDiv (.var 0 ⟨18, 15, 18, 24⟩) (.cint 8 ⟨18, 28, 18, 29⟩) ⟨18, 15, 18, 29⟩) (.bin .Mult (.cint 2 ⟨18, 33, 18, 34⟩) (.bin .Pow (.cint 10 ⟨18, 37, 18, 39⟩) (.cint 30 ⟨18, 43, 18, 45⟩) ⟨18, 37, 18, 45⟩) ⟨18, 33, 18, 45⟩) ⟨18, 15, 18, 46⟩) (.bin .Pow (.cint 10 ⟨18, 49, 18, 51⟩) (.cint 30 ⟨18, 55, 18, 57⟩) ⟨18, 49, 18, 57⟩) ⟨18, 15, 18, 57⟩) ⟨18, 8, 18, 57⟩] [] ⟨17, 4, 18, 57⟩,
    .ite (.cmp .Eq (.bin .Mod (.var 0 ⟨19, 7, 19, 16⟩) (.cint 8 ⟨19, 19, 19, 20⟩) ⟨19, 7, 19, 20⟩) (.cint 1 ⟨19, 24, 19, 25⟩) ⟨19, 7, 19, 25⟩) [.ret (.bin .Sub (.bin .Mod (.bin .FloorDiv (.var 0 ⟨20, 15, 20, 24⟩) (.cint 8 ⟨20, 28, 20, 29⟩) ⟨20, 15, 20, 29⟩) (.cint 9 ⟨20, 32, 20, 33⟩) ⟨20, 15, 20, 33⟩) (.cint 4 ⟨20, 36, 20, 37⟩) ⟨20, 15, 20, 37⟩) ⟨20, 8, 20, 37⟩] [] ⟨19, 4, 20, 37⟩,
    .ret (.bin .Mod (.bin .FloorDiv (.var 0 ⟨21, 11, 21, 20⟩) (.cint 8 ⟨21, 24, 21, 25⟩) ⟨21, 11, 21, 25⟩) (.cint 3 ⟨21, 28, 21, 29⟩) ⟨21, 11, 21, 29⟩) ⟨21, 4, 21, 29⟩]

def nm_law_triple : Nat → Str
  | 0 => PySem.Str.ofString "_law_cell"
  | 1 => PySem.Str.ofString "_law_more"
  | 2 => PySem.Str.ofString "_law_low"
  | 3 => PySem.Str.ofString "_law_way"
  | _ => ""

def p_law_triple : List PS := [.assign 2 ⟨23, 4, 23, 12⟩ (.call 8 ⟨23, 15, 23, 25⟩ [(.bin .FloorDiv (.var 0 ⟨23, 26, 23, 35⟩) (.cint 30 ⟨23, 39, 23, 41⟩) ⟨23, 26, 23, 41⟩)] ⟨23, 15, 23, 42⟩) ⟨23, 4, 23, 42⟩,
    .assign 3 ⟨24, 4, 24, 12⟩ (.bin .Mod (.bin .FloorDiv (.var 0 ⟨24, 15, 24, 24⟩) (.cint 6 ⟨24, 28, 24, 29⟩) ⟨24, 15, 24, 29⟩) (.cint 5 ⟨24, 32, 24, 33⟩) ⟨24, 15, 24, 33⟩) ⟨24, 4, 24, 33⟩,
    .ite (.cmp .Eq (.var 3 ⟨25, 7, 25, 15⟩) (.cint 0 ⟨25, 19, 25, 20⟩) ⟨25, 7, 25, 20⟩) [.ret (.tup [(.bin .Mod (.var 0 ⟨26, 16, 26, 25⟩) (.cint 6 ⟨26, 28, 26, 29⟩) ⟨26, 16, 26, 29⟩), (.cnone ⟨26, 31, 26, 35⟩), (.cnone ⟨26, 37, 26, 41⟩)] 0 ⟨26, 15, 26, 42⟩) ⟨26, 8, 26, 42⟩] [] ⟨25, 4, 26, 42⟩,
    .ite (.cmp .Eq (.var 3 ⟨27, 7, 27, 15⟩) (.cint 1 ⟨27, 19, 27, 20⟩) ⟨27, 7, 27, 20⟩) [.ret (.tup [(.bin .Mod (.var 0 ⟨28, 16, 28, 25⟩) (.cint 6 ⟨28, 28, 28, 29⟩) ⟨28, 16, 28, 29⟩), (.var 2 ⟨28, 31, 28, 39⟩), (.cnone ⟨28, 41, 28, 45⟩)] 0 ⟨28, 15, 28, 46⟩) ⟨28, 8, 28, 46⟩] [] ⟨27, 4, 28, 46⟩,
    .ite (.cmp .Eq (.var 3 ⟨29, 7, 29, 15⟩) (.cint 2 ⟨29, 19, 29, 20⟩) ⟨29, 7, 29, 20⟩) [.ret (.tup [(.bin .Mod (.var 0 ⟨30, 16, 30, 25⟩) (.cint 6 ⟨30, 28, 30, 29⟩) ⟨30, 16, 30, 29⟩), (.cnone ⟨30, 31, 30, 35⟩), (.var 2 ⟨30, 37, 30, 45⟩)] 0 ⟨30, 15, 30, 46⟩) ⟨30, 8, 30, 46⟩] [] ⟨29, 4, 30, 46⟩,
    .ite (.cmp .Eq (.var 3 ⟨31, 7, 31, 15⟩) (.cint 3 ⟨31, 19, 31, 20⟩) ⟨31, 7, 31, 20⟩) [.ret (.tup [(.bin .Mod (.var 0 ⟨32, 16, 32, 25⟩) (.cint 6 ⟨32, 28, 32, 29⟩) ⟨32, 16, 32, 29⟩), (.var 2 ⟨32, 31, 32, 39⟩), (.var 2 ⟨32, 41, 32, 49⟩)] 0 ⟨32, 15, 32, 50⟩) ⟨32, 8, 32, 50⟩] [] ⟨31, 4, 32, 50⟩,
    .ret (.tup [(.bin .Mod (.var 0 ⟨33, 12, 33, 21⟩) (.cint 6 ⟨33, 24, 33, 25⟩) ⟨33, 12, 33, 25⟩), (.var 2 ⟨33, 27, 33, 35⟩), (.call 8 ⟨33, 37, 33, 47⟩ [(.var 1 ⟨33, 48, 33, 57⟩)] ⟨33, 37, 33, 58⟩)] 0 ⟨33, 11, 33, 59⟩) ⟨33, 4, 33, 59⟩]

def nm_law_due : Nat → Str
  | 0 => PySem.Str.ofString "_law_wish"
  | 1 => PySem.Str.ofString "_law_due_here"
  | 2 => PySem.Str.ofString "_law_column"
  | 3 => PySem.Str.ofString "_law_lows"
  | 4 => PySem.Str.ofString "_law_highs"
  | 5 => PySem.Str.ofString "_law_low"
  | 6 => PySem.Str.ofString "_law_high"
  | 7 => PySem.Str.ofString "_law_one"
  | 8 => PySem.Str.ofString "_law_one"
  | 9 => PySem.Str.ofString "_law_one"
  | _ => ""

def p_law_due : List PS := [.assign 1 ⟨35, 4, 35, 17⟩ (.list true [] ⟨35, 20, 35, 22⟩) ⟨35, 4, 35, 22⟩,
    .loop 2 ⟨36, 8, 36, 19⟩ (.range 9 ⟨36, 23, 36, 28⟩ (.cint 6 ⟨36, 29, 36, 30⟩) ⟨36, 23, 36, 31⟩) [.assign 3 ⟨37, 8, 37, 17⟩ (.comp false (.sub (.var 7 ⟨37, 21, 37, 29⟩) (.cint 1 ⟨37, 30, 37, 31⟩) ⟨37, 21, 37, 32⟩) 7 ⟨37, 37, 37, 45⟩ (.of (.var 0 ⟨37, 49, 37, 58⟩)) [(.bop .And [(.cmp .Eq (.sub (.var 7 ⟨37, 62, 37, 70⟩) (.cint 0 ⟨37, 71, 37, 72⟩) ⟨37, 62, 37, 73⟩) (.var 2 ⟨37, 77, 37, 88⟩) ⟨37, 62, 37, 88⟩), (.cmp .IsNot (.sub (.var 7 ⟨37, 93, 37, 101⟩) (.cint 1 ⟨37, 102, 37, 103⟩) ⟨37, 93, 37, 104⟩) (.cnone ⟨37, 112, 37, 116⟩) ⟨37, 93, 37, 116⟩)] ⟨37, 62, 37, 116⟩)] { kind := .function, names := [(PySem.Str.ofString ".0", .local), (PySem.Str.ofString "_law_one", .local), (PySem.Str.ofString "_law_column", .free)], isGenerator := false, isCoroutine := false, more := [] } [2] ⟨37, 20, 37, 117⟩) ⟨37, 8, 37, 117⟩,
    .assign 4 ⟨38, 8, 38, 18⟩ (.comp false (.sub (.var 8 ⟨38, 22, 38, 30⟩) (.cint 2 ⟨38, 31, 38, 32⟩) ⟨38, 22, 38, 33⟩) 8 ⟨38, 38, 38, 46⟩ (.of (.var 0 ⟨38, 50, 38, 59⟩)) [(.bop .And [(.cmp .Eq (.sub (.var 8 ⟨38, 63, 38, 71⟩) (.cint 0 ⟨38, 72, 38, 73⟩) ⟨38, 63, 38, 74⟩) (.var 2 ⟨38, 78, 38, 89⟩) ⟨38, 63, 38, 89⟩), (.cmp .IsNot (.sub (.var 8 ⟨38, 94, 38, 102⟩) (.cint 2 ⟨38, 103, 38, 104⟩) ⟨38, 94, 38, 105⟩) (.cnone ⟨38, 113, 38, 117⟩) ⟨38, 94, 38, 117⟩)] ⟨38, 63, 38, 117⟩)] { kind := .function, names := [(PySem.Str.ofString ".0", .local), (PySem.Str.ofString "_law_one", .local), (PySem.Str.ofString "_law_column", .free)], isGenerator := false, isCoroutine := false, more := [] } [2] ⟨38, 21, 38, 118⟩) ⟨38, 8, 38, 118⟩,
    .assign 5 ⟨39, 8, 39, 16⟩ (.cnone ⟨39, 19, 39, 23⟩) ⟨39, 8, 39, 23⟩,
    .ite (.cmp .Gt (.bi .len false 7 ⟨40, 11, 40, 14⟩ [(.var 3 ⟨40, 15, 40, 24⟩)] ⟨40, 11, 40, 25⟩) (.cint 0 ⟨40, 28, 40, 29⟩) ⟨40, 11, 40, 29⟩) [.assign 5 ⟨41, 12, 41, 20⟩ (.bi .max1 false 2 ⟨41, 23, 41, 26⟩ [(.var 3 ⟨41, 27, 41, 36⟩)] ⟨41, 23, 41, 37⟩) ⟨41, 12, 41, 37⟩] [] ⟨40, 8, 41, 37⟩,
    .assign 6 ⟨42, 8, 42, 17⟩ (.cnone ⟨42, 20, 42, 24⟩) ⟨42, 8, 42, 24⟩,
    .ite (.cmp .Gt (.bi .len false 7 ⟨43, 11, 43, 14⟩ [(.var 4 ⟨43, 15, 43, 25⟩)] ⟨43, 11, 43, 26⟩) (.cint 0 ⟨43, 29, 43, 30⟩) ⟨43, 11, 43, 30⟩) [.assign 6 ⟨44, 12, 44, 21⟩ (.bi .min1 false 3 ⟨44, 24, 44, 27⟩ [(.var 4 ⟨44, 28, 44, 38⟩)] ⟨44, 24, 44, 39⟩) ⟨44, 12, 44, 39⟩] [] ⟨43, 8, 44, 39⟩,
    .ite (.cmp .Gt (.bi .len false 7 ⟨45, 11, 45, 14⟩ [(.comp false (.cint 1 ⟨45, 16, 45, 17⟩) 9 ⟨45, 22, 45, 30⟩ (.of (.var 0 ⟨45, 34, 45, 43⟩)) [(.cmp .Eq (.sub (.var 9 ⟨45, 47, 45, 55⟩) (.cint 0 ⟨45, 56, 45, 57⟩) ⟨45, 47, 45, 58⟩) (.var 2 ⟨45, 62, 45, 73⟩) ⟨45, 47, 45, 73⟩)] { kind := .function, names := [(PySem.Str.ofString ".0", .local), (PySem.Str.ofString "_law_one", .local), (PySem.Str.ofString "_law_column", .free)], isGenerator := false, isCoroutine := false, more := [] } [2] ⟨45, 15, 45, 74⟩)] ⟨45, 11, 45, 75⟩) (.cint 0 ⟨45, 78, 45, 79⟩) ⟨45, 11, 45, 79⟩) [.expr (.app (.var 1 ⟨46, 12, 46, 25⟩) ⟨46, 12, 46, 32⟩ (.tup [(.var 2 ⟨46, 34, 46, 45⟩), (.var 5 ⟨46, 47, 46, 55⟩), (.var 6 ⟨46, 57, 46, 66⟩)] 0 ⟨46, 33, 46, 67⟩) ⟨46, 12, 46, 68⟩) ⟨46, 12, 46, 68⟩] [] ⟨45, 8, 46, 68⟩] ⟨36, 4, 46, 68⟩,
    .ret (.var 1 ⟨47, 11, 47, 24⟩) ⟨47, 4, 47, 24⟩]

def nm_law_alike : Nat → Str
  | 0 => PySem.Str.ofString "_law_found"
  | 1 => PySem.Str.ofString "_law_due_here"
  | 2 => PySem.Str.ofString "_law_k"
  | _ => ""

def p_law_alike : List PS := [.ite (.bop .Or [(.not (.isi (.var 0 ⟨49, 22, 49, 32⟩) .tuple 4 ⟨49, 11, 49, 21⟩ 10 ⟨49, 34, 49, 39⟩ ⟨49, 11, 49, 40⟩) ⟨49, 7, 49, 40⟩), (.cmp .NotEq (.bi .len false 7 ⟨49, 44, 49, 47⟩ [(.var 0 ⟨49, 48, 49, 58⟩)] ⟨49, 44, 49, 59⟩) (.cint 3 ⟨49, 63, 49, 64⟩) ⟨49, 44, 49, 64⟩), (.not (.call 11 ⟨49, 73, 49, 83⟩ [(.sub (.var 0 ⟨49, 84, 49, 94⟩) (.cint 0 ⟨49, 95, 49, 96⟩) ⟨49, 84, 49, 97⟩)] ⟨49, 73, 49, 98⟩) ⟨49, 69, 49, 98⟩)] ⟨49, 7, 49, 99⟩) [.ret (.cbool false ⟨50, 15, 50, 20⟩) ⟨50, 8, 50, 20⟩] [] ⟨49, 4, 50, 20⟩,
    .loop 2 ⟨51, 8, 51, 14⟩ (.range 9 ⟨51, 18, 51, 23⟩ (.cint 3 ⟨51, 24, 51, 25⟩) ⟨51, 18, 51, 26⟩) [.ite (.bop .Or [(.cmp .Is (.sub (.var 0 ⟨52, 11, 52, 21⟩) (.var 2 ⟨52, 22, 52, 28⟩) ⟨52, 11, 52, 29⟩) (.cnone ⟨52, 33, 52, 37⟩) ⟨52, 11, 52, 37⟩), (.cmp .Is (.sub (.var 1 ⟨52, 41, 52, 54⟩) (.var 2 ⟨52, 55, 52, 61⟩) ⟨52, 41, 52, 62⟩) (.cnone ⟨52, 66, 52, 70⟩) ⟨52, 41, 52, 70⟩)] ⟨52, 11, 52, 70⟩) [.ite (.bop .Or [(.cmp .IsNot (.sub (.var 0 ⟨53, 15, 53, 25⟩) (.var 2 ⟨53, 26, 53, 32⟩) ⟨53, 15, 53, 33⟩) (.cnone ⟨53, 41, 53, 45⟩) ⟨53, 15, 53, 45⟩), (.cmp .IsNot (.sub (.var 1 ⟨53, 49, 53, 62⟩) (.var 2 ⟨53, 63, 53, 69⟩) ⟨53, 49, 53, 70⟩) (.cnone ⟨53, 78, 53, 82⟩) ⟨53, 49, 53, 82⟩)] ⟨53, 15, 53, 82⟩) [.ret (.cbool false ⟨54, 23, 54, 28⟩) ⟨54, 16, 54, 28⟩] [] ⟨53, 12, 54, 28⟩] [.ite (.bop .Or [(.not (.call 11 ⟨55, 17, 55, 27⟩ [(.sub (.var 0 ⟨55, 28, 55, 38⟩) (.var 2 ⟨55, 39, 55, 45⟩) ⟨55, 28, 55, 46⟩)] ⟨55, 17, 55, 47⟩) ⟨55, 13, 55, 47⟩), (.cmp .NotEq (.sub (.var 0 ⟨55, 51, 55, 61⟩) (.var 2 ⟨55, 62, 55, 68⟩) ⟨55, 51, 55, 69⟩) (.sub (.var 1 ⟨55, 73, 55, 86⟩) (.var 2 ⟨55, 87, 55, 93⟩) ⟨55, 73, 55, 94⟩) ⟨55, 51, 55, 94⟩)] ⟨55, 13, 55, 94⟩) [.ret (.cbool false ⟨56, 19, 56, 24⟩) ⟨56, 12, 56, 24⟩] [] ⟨55, 8, 56, 24⟩] ⟨52, 8, 56, 24⟩] ⟨51, 4, 56, 24⟩,
    .ret (.cbool true ⟨57, 11, 57, 15⟩) ⟨57, 4, 57, 15⟩]

def nm_law : Nat → Str
  | 0 => PySem.Str.ofString "_law_script"
  | 1 => PySem.Str.ofString "_law_size"
  | 2 => PySem.Str.ofString "_law_k"
  | 3 => PySem.Str.ofString "_law_wish"
  | 4 => PySem.Str.ofString "_law_handed"
  | 5 => PySem.Str.ofString "_law_found"
  | 6 => PySem.Str.ofString "_law_due_here"
  | 7 => PySem.Str.ofString "_law_k"
  | _ => ""

def p_law : List PS := [.assign 1 ⟨59, 4, 59, 13⟩ (.bin .Mod (.call 12 ⟨59, 16, 59, 23⟩ [(.var 0 ⟨59, 24, 59, 35⟩), (.cint 0 ⟨59, 37, 59, 38⟩)] ⟨59, 16, 59, 39⟩) (.cint 7 ⟨59, 42, 59, 43⟩) ⟨59, 16, 59, 43⟩) ⟨59, 4, 59, 43⟩,
    .ite (.cmp .Eq (.bin .Mod (.bin .FloorDiv (.call 12 ⟨60, 7, 60, 14⟩ [(.var 0 ⟨60, 15, 60, 26⟩), (.cint 0 ⟨60, 28, 60, 29⟩)] ⟨60, 7, 60, 30⟩) (.cint 7 ⟨60, 34, 60, 35⟩) ⟨60, 7, 60, 35⟩) (.cint 4 ⟨60, 38, 60, 39⟩) ⟨60, 7, 60, 39⟩) (.cint 1 ⟨60, 43, 60, 44⟩) ⟨60, 7, 60, 44⟩) [.assign 1 ⟨61, 8, 61, 17⟩ (.cint 20 ⟨61, 20, 61, 22⟩) ⟨61, 8, 61, 22⟩] [] ⟨60, 4, 61, 22⟩,
    .assign 3 ⟨62, 4, 62, 13⟩ (.comp false (.call 13 ⟨62, 17, 62, 28⟩ [(.call 12 ⟨62, 29, 62, 36⟩ [(.var 0 ⟨62, 37, 62, 48⟩), (.bin .Add (.cint 1 ⟨62, 50, 62, 51⟩) (.var 7 ⟨62, 54, 62, 60⟩) ⟨62, 50, 62, 60⟩)] ⟨62, 29, 62, 61⟩), (.call 12 ⟨62, 63, 62, 70⟩ [(.var 0 ⟨62, 71, 62, 82⟩), (.bin .Add (.cint 22 ⟨62, 84, 62, 86⟩) (.var 7 ⟨62, 89, 62, 95⟩) ⟨62, 84, 62, 95⟩)] ⟨62, 63, 62, 96⟩)] ⟨62, 17, 62, 97⟩) 7 ⟨62, 102, 62, 108⟩ (.range 9 ⟨62, 112, 62, 117⟩ (.var 1 ⟨62, 118, 62, 127⟩) ⟨62, 112, 62, 128⟩) [] { kind := .function, names := [(PySem.Str.ofString ".0", .local), (PySem.Str.ofString "_law_k", .local), (PySem.Str.ofString "_law_triple", .globalImplicit), (PySem.Str.ofString "_law_at", .globalImplicit), (PySem.Str.ofString "_law_script", .free)], isGenerator := false, isCoroutine := false, more := [] } [0] ⟨62, 16, 62, 129⟩) ⟨62, 4, 62, 129⟩,
    .assign 4 ⟨63, 4, 63, 15⟩ (.bi .list false 14 ⟨63, 18, 63, 22⟩ [(.var 3 ⟨63, 23, 63, 32⟩)] ⟨63, 18, 63, 33⟩) ⟨63, 4, 63, 33⟩,
    .assign 5 ⟨64, 4, 64, 14⟩ (.call 15 ⟨64, 17, 64, 23⟩ [(.var 4 ⟨64, 24, 64, 35⟩)] ⟨64, 17, 64, 36⟩) ⟨64, 4, 64, 36⟩,
    .assign 6 ⟨65, 4, 65, 17⟩ (.call 16 ⟨65, 20, 65, 28⟩ [(.var 3 ⟨65, 29, 65, 38⟩)] ⟨65, 20, 65, 39⟩) ⟨65, 4, 65, 39⟩,
    .ite (.bop .Or [(.not (.isi (.var 5 ⟨66, 22, 66, 32⟩) .list 4 ⟨66, 11, 66, 21⟩ 14 ⟨66, 34, 66, 38⟩ ⟨66, 11, 66, 39⟩) ⟨66, 7, 66, 39⟩), (.cmp .NotEq (.bi .len false 7 ⟨66, 43, 66, 46⟩ [(.var 5 ⟨66, 47, 66, 57⟩)] ⟨66, 43, 66, 58⟩) (.bi .len false 7 ⟨66, 62, 66, 65⟩ [(.var 6 ⟨66, 66, 66, 79⟩)] ⟨66, 62, 66, 80⟩) ⟨66, 43, 66, 80⟩), (.cmp .NotEq (.var 4 ⟨66, 84, 66, 95⟩) (.var 3 ⟨66, 99, 66, 108⟩) ⟨66, 84, 66, 108⟩)] ⟨66, 7, 66, 108⟩) [.ret (.cbool false ⟨67, 15, 67, 20⟩) ⟨67, 8, 67, 20⟩] [] ⟨66, 4, 67, 20⟩,
    .loop 2 ⟨68, 8, 68, 14⟩ (.range 9 ⟨68, 18, 68, 23⟩ (.bi .len false 7 ⟨68, 24, 68, 27⟩ [(.var 6 ⟨68, 28, 68, 41⟩)] ⟨68, 24, 68, 42⟩) ⟨68, 18, 68, 43⟩) [.ite (.not (.call 17 ⟨69, 15, 69, 25⟩ [(.sub (.var 5 ⟨69, 26, 69, 36⟩) (.var 2 ⟨69, 37, 69, 43⟩) ⟨69, 26, 69, 44⟩), (.sub (.var 6 ⟨69, 46, 69, 59⟩) (.var 2 ⟨69, 60, 69, 66⟩) ⟨69, 46, 69, 67⟩)] ⟨69, 15, 69, 68⟩) ⟨69, 11, 69, 68⟩) [.ret (.cbool false ⟨70, 19, 70, 24⟩) ⟨70, 12, 70, 24⟩] [] ⟨69, 8, 70, 24⟩] ⟨68, 4, 70, 24⟩,
    .ret (.cbool true ⟨71, 11, 71, 15⟩) ⟨71, 4, 71, 15⟩]

def gn : Nat → Str
  | 0 => PySem.Str.ofString "sorted"
  | 1 => PySem.Str.ofString "set"
  | 2 => PySem.Str.ofString "max"
  | 3 => PySem.Str.ofString "min"
  | 4 => PySem.Str.ofString "isinstance"
  | 5 => PySem.Str.ofString "int"
  | 6 => PySem.Str.ofString "bool"
  | 7 => PySem.Str.ofString "len"
  | 8 => PySem.Str.ofString "_law_value"
  | 9 => PySem.Str.ofString "range"
  | 10 => PySem.Str.ofString "tuple"
  | 11 => PySem.Str.ofString "_law_whole"
  | 12 => PySem.Str.ofString "_law_at"
  | 13 => PySem.Str.ofString "_law_triple"
  | 14 => PySem.Str.ofString "list"
  | 15 => PySem.Str.ofString "merged"
  | 16 => PySem.Str.ofString "_law_due"
  | 17 => PySem.Str.ofString "_law_alike"
  | _ => ""

def S_at : Spec := fun ds σ Φ => ∃ sc k, ds = [dI sc, .int k] ∧ sc.length ≤ 1000 ∧ 0 ≤ k ∧ Φ (.int (sc.getD k.toNat 0)) σ
theorem at_vc (S : Nat → Spec) (ds : List D) (σ : Store) (Φ : D → Store → Prop) (h : S_at ds σ Φ) : ds.length = [0, 1].length ∧ vcSs S p_law_at (initE [0, 1] ds 2) σ (retS Φ) := by
  obtain ⟨sc, k, rfl, h1, h2, h⟩ := h
  refine ⟨rfl, ?_⟩
  conv => whnf
  refine ⟨_, rfl, small_ok (by simp; omega), ?_⟩
  conv => whnf
  simp only [List.length_map]
  refine and_decide (fun hlt => ?_) (fun hge => ?_)
  · conv => whnf
    have hk : k.toNat < sc.length := by omega
    refine ⟨_, rfl, small_ok (by simp; omega), .inl ⟨h2, _, get_map_int hk, ?_⟩⟩
    refine retS_ret ?_
    rw [List.getD_eq_getElem?_getD, List.getElem?_eq_getElem hk] at h
    exact h
  · refine retS_ret ?_
    rw [List.getD_eq_getElem?_getD, List.getElem?_eq_none (by omega)] at h
    exact h

def valueF (c : Int) : Int := if c % 8 = 0 then c / 8 % (2 * 10 ^ 30) - 10 ^ 30 else if c % 8 = 1 then c / 8 % 9 - 4 else c / 8 % 3
def S_value : Spec := fun ds σ Φ => ∃ c, ds = [.int c] ∧ Φ (.int (valueF c)) σ
theorem value_vc (S : Nat → Spec) (ds : List D) (σ : Store) (Φ : D → Store → Prop) (h : S_value ds σ Φ) : ds.length = [0].length ∧ vcSs S p_law_value (initE [0] ds 1) σ (retS Φ) := by
  obtain ⟨c, rfl, h⟩ := h
  refine ⟨rfl, ?_⟩
  unfold valueF at h
  conv => whnf
  refine ⟨by decide, ?_⟩
  conv => whnf
  refine and_decide (fun h0 => ?_) (fun h0 => ?_)
  · rw [if_pos h0] at h
    conv => whnf
    refine ⟨by decide, ?_⟩
    conv => whnf
    refine ⟨by decide, ?_⟩
    conv => whnf
    refine ⟨by decide, ?_⟩
    conv => whnf
    refine ⟨by decide, ?_⟩
    conv => whnf
    refine ⟨by decide, ?_⟩
    exact retS_ret h
  · rw [if_neg h0] at h
    conv => whnf
    refine ⟨by decide, ?_⟩
    conv => whnf
    refine and_decide (fun h1 => ?_) (fun h1 => ?_)
    · rw [if_pos h1] at h
      conv => whnf
      refine ⟨by decide, ?_⟩
      conv => whnf
      refine ⟨by decide, ?_⟩
      exact retS_ret h
    · rw [if_neg h1] at h
      conv => whnf
      refine ⟨by decide, ?_⟩
      conv => whnf
      refine ⟨by decide, ?_⟩
      exact retS_ret h

def S_whole : Spec := fun ds σ Φ => ∃ i, ds = [.int i] ∧ Φ (.bool true) σ
theorem whole_vc (S : Nat → Spec) (ds : List D) (σ : Store) (Φ : D → Store → Prop) (h : S_whole ds σ Φ) : ds.length = [0].length ∧ vcSs S p_law_whole (initE [0] ds 1) σ (retS Φ) := by
  obtain ⟨i, rfl, h⟩ := h
  refine ⟨rfl, ?_⟩
  conv => whnf
  refine ⟨_, rfl, ?_⟩
  conv => whnf
  refine ⟨fun e => Bool.noConfusion e, fun _ => ?_⟩
  conv => whnf
  refine ⟨_, rfl, ?_⟩
  exact retS_ret h

structure Tr where
  col : Nat
  lo : Option Int
  hi : Option Int
abbrev dT (t : Tr) : D := .tuple [.int t.col, dOpt t.lo, dOpt t.hi]
def lowsF (wish : List Tr) (c : Nat) : List Int := wish.filterMap fun t => if t.col = c then t.lo else none
def highsF (wish : List Tr) (c : Nat) : List Int := wish.filterMap fun t => if t.col = c then t.hi else none
def entT (wish : List Tr) (c : Nat) : Tr := ⟨c, maxOf (lowsF wish c), minOf (highsF wish c)⟩

def S_merged : Spec := fun ds σ Φ => ∃ wish : List Tr, ds = [.list (wish.map dT)] ∧ wish.length ≤ 1000 ∧ (∀ t ∈ wish, t.col < 6) ∧ Φ (.list (((keysOf (bitsOf (wish.map (·.col)))).map (entT wish)).map dT)) σ

theorem nat_dec (a b : Nat) : decide ((a : Int) = b) = decide (a = b) := by
  by_cases h : a = b
  · rw [decide_eq_true h, decide_eq_true (by omega)]
  · rw [decide_eq_false h, decide_eq_false (by omega)]

theorem merged_vc (S : Nat → Spec) (ds : List D) (σ : Store) (Φ : D → Store → Prop) (h : S_merged ds σ Φ) : ds.length = [0].length ∧ vcSs S p_merged (initE [0] ds 8) σ (retS Φ) := by
  obtain ⟨wish, rfl, hw, h6, h⟩ := h
  refine ⟨rfl, ?_⟩
  conv => whnf
  refine ⟨rfl, ?_⟩
  intro a hf
  conv => whnf
  refine ⟨_, rfl, small_ok (by simp; omega), ?_⟩
  refine compS_mapG dT (fun t => some (.int t.col)) trivial _ _ ?_ ?_
  · intro t ht K hK
    conv => whnf
    refine and_tt ?_
    conv => whnf
    exact ⟨_, rfl, small_ok (by simp), .inl ⟨by decide, _, rfl, hK⟩⟩
  have e0 : wish.filterMap (fun t => some (D.int t.col)) = (wish.map (·.col)).map fun (k : Nat) => D.int k := by
    rw [List.map_map, List.filterMap_eq_map']; rfl
  rw [List.nil_append, e0]
  conv => whnf
  refine ⟨wish.map (·.col), rfl, rfl, ?_, ?_⟩
  · intro k hk
    obtain ⟨t, ht, rfl⟩ := List.mem_map.mp hk
    exact h6 t ht
  refine ⟨_, rfl, ?_⟩
  generalize hks : keysOf (bitsOf (wish.map (·.col))) = ks at *
  have hk6 : ks.length ≤ 6 := by rw [← hks]; exact keys_le _
  refine forS_inv (fun k ρ σ' => σ' = σ.set a (.mlist (((ks.take k).map (entT wish)).map dT)) ∧ ∃ o2 o3 o4, ρ = [some (.list (wish.map dT)), some (.obj a), o2, o3, o4, none, none, none]) (fun _ _ _ _ => trivial) ?_ ?_ ⟨rfl, none, none, none, rfl⟩
  · rintro k d ρ σ' K hd ⟨rfl, o2, o3, o4, rfl⟩ hK
    have hk : k < ks.length := by
      have := (List.getElem?_eq_some_iff.mp hd).1; simpa using this
    rw [get_map (fun (j : Nat) => D.int j) hk] at hd
    cases hd
    have hK' : ∀ o2 o3 o4, K [some (.list (wish.map dT)), some (.obj a), o2, o3, o4, none, none, none] (σ.set a (.mlist (((ks.take k).map (entT wish)).map dT ++ [dT (entT wish ks[k])]))) := fun o2 o3 o4 => hK _ _ ⟨by
      rw [List.take_succ_eq_append_getElem hk, List.map_append, List.map_append]; rfl, o2, o3, o4, rfl⟩
    clear hK
    generalize hcc : ks[k] = cc at hK' ⊢
    generalize hxs : ((ks.take k).map (entT wish)).map dT = xs at hK' ⊢
    have hxl : xs.length ≤ 6 := by rw [← hxs]; simp; omega
    conv => whnf
    refine ⟨_, rfl, small_ok (by simp; omega), ?_⟩
    refine compS_mapG dT (fun t => (if t.col = cc then t.lo else none).map D.int) trivial _ _ ?_ ?_
    · intro t ht K2 hK2
      obtain ⟨c, lo, hi⟩ := t
      conv => whnf
      refine ⟨_, rfl, small_ok (by simp), .inl ⟨by decide, _, rfl, ?_⟩⟩
      conv => whnf
      rw [nat_dec]
      by_cases hc : c = cc
      · rw [decide_eq_true hc]
        dsimp only at hK2
        rw [if_pos hc] at hK2
        refine and_ff' ?_
        conv => whnf
        refine ⟨_, rfl, small_ok (by simp), .inl ⟨by decide, _, rfl, ?_⟩⟩
        cases lo with
        | none =>
          conv => whnf
          refine ⟨_, rfl, ?_⟩
          conv => whnf
          refine and_tf' ?_
          conv => whnf
          refine and_ff ?_
          conv => whnf
          exact and_ff hK2
        | some lo =>
          conv => whnf
          refine ⟨_, rfl, ?_⟩
          conv => whnf
          refine and_ff' ?_
          conv => whnf
          refine and_tt ?_
          conv => whnf
          refine and_tt ?_
          conv => whnf
          exact ⟨_, rfl, small_ok (by simp), .inl ⟨by decide, _, rfl, hK2⟩⟩
      · rw [decide_eq_false hc]
        dsimp only at hK2
        rw [if_neg hc] at hK2
        refine and_tf' ?_
        conv => whnf
        refine and_ff ?_
        conv => whnf
        exact and_ff hK2
    rw [List.nil_append, filterMap_int]
    conv => whnf
    refine ⟨_, rfl, small_ok (by simp; omega), ?_⟩
    refine compS_mapG dT (fun t => (if t.col = cc then t.hi else none).map D.int) trivial _ _ ?_ ?_
    · intro t ht K2 hK2
      obtain ⟨c, lo, hi⟩ := t
      conv => whnf
      refine ⟨_, rfl, small_ok (by simp), .inl ⟨by decide, _, rfl, ?_⟩⟩
      conv => whnf
      rw [nat_dec]
      by_cases hc : c = cc
      · rw [decide_eq_true hc]
        dsimp only at hK2
        rw [if_pos hc] at hK2
        refine and_ff' ?_
        conv => whnf
        refine ⟨_, rfl, small_ok (by simp), .inl ⟨by decide, _, rfl, ?_⟩⟩
        cases hi with
        | none =>
          conv => whnf
          refine ⟨_, rfl, ?_⟩
          conv => whnf
          refine and_tf' ?_
          conv => whnf
          refine and_ff ?_
          conv => whnf
          exact and_ff hK2
        | some hi =>
          conv => whnf
          refine ⟨_, rfl, ?_⟩
          conv => whnf
          refine and_ff' ?_
          conv => whnf
          refine and_tt ?_
          conv => whnf
          refine and_tt ?_
          conv => whnf
          exact ⟨_, rfl, small_ok (by simp), .inl ⟨by decide, _, rfl, hK2⟩⟩
      · rw [decide_eq_false hc]
        dsimp only at hK2
        rw [if_neg hc] at hK2
        refine and_tf' ?_
        conv => whnf
        refine and_ff ?_
        conv => whnf
        exact and_ff hK2
    rw [List.nil_append, filterMap_int]
    conv => whnf
    refine ⟨⟨xs, set_at _ _ _⟩, ?_⟩
    conv => whnf
    refine ⟨lowsF wish cc, rfl, rfl, ?_⟩
    conv => whnf
    refine ⟨highsF wish cc, rfl, rfl, ?_⟩
    conv => whnf
    refine ⟨rfl, ?_⟩
    conv => whnf
    refine ⟨xs, set_at _ _ _, small_ok (by omega), ?_⟩
    rw [set_set]
    exact hK' _ _ _
  · rintro ρ σ' ⟨rfl, o2, o3, o4, rfl⟩
    rw [List.length_map, List.take_length]
    exact retS_frz hf h
end Mine.L03

open PySem PyProof.Rows
set_option Elab.async false
namespace Mine.L03
set_option maxRecDepth 100000
set_option maxHeartbeats 4000000

theorem lows_eq (wish : List Tr) (cc : Nat) : wish.filterMap (fun t => (if t.col = cc then t.lo else none).map D.int) = (lowsF wish cc).map D.int := filterMap_int _ _
theorem highs_eq (wish : List Tr) (cc : Nat) : wish.filterMap (fun t => (if t.col = cc then t.hi else none).map D.int) = (highsF wish cc).map D.int := filterMap_int _ _
theorem lows_len (wish : List Tr) (cc : Nat) : (lowsF wish cc).length ≤ wish.length := List.length_filterMap_le _ _
theorem highs_len (wish : List Tr) (cc : Nat) : (highsF wish cc).length ≤ wish.length := List.length_filterMap_le _ _
def hasC (wish : List Tr) (c : Nat) : Bool := wish.any fun t => decide (t.col = c)
theorem ones_len (wish : List Tr) (cc : Nat) : ((wish.filterMap fun t => if t.col = cc then some (D.int 1) else none).length > 0) ↔ hasC wish cc = true := by
  unfold hasC
  induction wish with
  | nil => simp
  | cons t r ih =>
    rw [List.filterMap_cons]
    by_cases h : t.col = cc
    · rw [if_pos h]; simp [h]
    · rw [if_neg h]; simp [h]
def S_due : Spec := fun ds σ Φ => ∃ wish : List Tr, ds = [.list (wish.map dT)] ∧ wish.length ≤ 1000 ∧ Φ (.list ((((List.range 6).filter (hasC wish)).map (entT wish)).map dT)) σ

theorem due_vc (S : Nat → Spec) (ds : List D) (σ : Store) (Φ : D → Store → Prop) (h : S_due ds σ Φ) : ds.length = [0].length ∧ vcSs S p_law_due (initE [0] ds 10) σ (retS Φ) := by
  obtain ⟨wish, rfl, hw, h⟩ := h
  refine ⟨rfl, ?_⟩
  conv => whnf
  refine ⟨rfl, ?_⟩
  intro a hf
  conv => whnf
  refine ⟨by decide, by decide, ?_⟩
  refine forS_inv (fun k ρ σ' => σ' = σ.set a (.mlist ((((List.range k).filter (hasC wish)).map (entT wish)).map dT)) ∧ ∃ o2 o3 o4 o5 o6, ρ = [some (.list (wish.map dT)), some (.obj a), o2, o3, o4, o5, o6, none, none, none]) (fun _ _ _ _ => trivial) ?_ ?_ ⟨rfl, none, none, none, none, none, rfl⟩
  · rintro cc d ρ σ' K hd ⟨rfl, o2, o3, o4, o5, o6, rfl⟩ hK
    obtain ⟨rfl, hlt⟩ := rangeD_get hd
    have hy : hasC wish cc = true → ∀ o2 o3 o4 o5 o6, K [some (.list (wish.map dT)), some (.obj a), o2, o3, o4, o5, o6, none, none, none] (σ.set a (.mlist ((((List.range cc).filter (hasC wish)).map (entT wish)).map dT ++ [dT ⟨cc, maxOf (lowsF wish cc), minOf (highsF wish cc)⟩]))) := fun q o2 o3 o4 o5 o6 => hK _ _ ⟨by
      rw [List.range_succ, List.filter_append, List.filter_cons_of_pos q, List.filter_nil, List.map_append, List.map_append]; rfl, o2, o3, o4, o5, o6, rfl⟩
    have hnn : hasC wish cc = false → ∀ o2 o3 o4 o5 o6, K [some (.list (wish.map dT)), some (.obj a), o2, o3, o4, o5, o6, none, none, none] (σ.set a (.mlist ((((List.range cc).filter (hasC wish)).map (entT wish)).map dT))) := fun q o2 o3 o4 o5 o6 => hK _ _ ⟨by
      rw [List.range_succ, List.filter_append, List.filter_cons_of_neg (by rw [q]; exact Bool.false_ne_true), List.filter_nil, List.append_nil], o2, o3, o4, o5, o6, rfl⟩
    have hxl : ((((List.range cc).filter (hasC wish)).map (entT wish)).map dT).length ≤ 6 := by
      have := List.length_filter_le (hasC wish) (List.range cc)
      simp at this ⊢; omega
    clear hK
    generalize (((List.range cc).filter (hasC wish)).map (entT wish)).map dT = xs at hy hnn hxl ⊢
    conv => whnf
    refine ⟨_, rfl, small_ok (by simp; omega), ?_⟩
    refine compS_mapG dT (fun t => (if t.col = cc then t.lo else none).map D.int) trivial _ _ ?_ ?_
    · intro t ht K2 hK2
      obtain ⟨c, lo, hi⟩ := t
      conv => whnf
      refine ⟨_, rfl, small_ok (by simp), .inl ⟨by decide, _, rfl, ?_⟩⟩
      conv => whnf
      rw [nat_dec]
      by_cases hc : c = cc
      · rw [decide_eq_true hc]
        dsimp only at hK2
        rw [if_pos hc] at hK2
        refine and_ff' ?_
        conv => whnf
        refine ⟨_, rfl, small_ok (by simp), .inl ⟨by decide, _, rfl, ?_⟩⟩
        cases lo with
        | none =>
          conv => whnf
          refine ⟨_, rfl, ?_⟩
          conv => whnf
          refine and_tf' ?_
          conv => whnf
          refine and_ff ?_
          conv => whnf
          exact and_ff hK2
        | some lo =>
          conv => whnf
          refine ⟨_, rfl, ?_⟩
          conv => whnf
          refine and_ff' ?_
          conv => whnf
          refine and_tt ?_
          conv => whnf
          refine and_tt ?_
          conv => whnf
          exact ⟨_, rfl, small_ok (by simp), .inl ⟨by decide, _, rfl, hK2⟩⟩
      · rw [decide_eq_false hc]
        dsimp only at hK2
        rw [if_neg hc] at hK2
        refine and_tf' ?_
        conv => whnf
        refine and_ff ?_
        conv => whnf
        exact and_ff hK2
    rw [List.nil_append, lows_eq]
    conv => whnf
    refine ⟨_, rfl, small_ok (by simp; omega), ?_⟩
    refine compS_mapG dT (fun t => (if t.col = cc then t.hi else none).map D.int) trivial _ _ ?_ ?_
    · intro t ht K2 hK2
      obtain ⟨c, lo, hi⟩ := t
      conv => whnf
      refine ⟨_, rfl, small_ok (by simp), .inl ⟨by decide, _, rfl, ?_⟩⟩
      conv => whnf
      rw [nat_dec]
      by_cases hc : c = cc
      · rw [decide_eq_true hc]
        dsimp only at hK2
        rw [if_pos hc] at hK2
        refine and_ff' ?_
        conv => whnf
        refine ⟨_, rfl, small_ok (by simp), .inl ⟨by decide, _, rfl, ?_⟩⟩
        cases hi with
        | none =>
          conv => whnf
          refine ⟨_, rfl, ?_⟩
          conv => whnf
          refine and_tf' ?_
          conv => whnf
          refine and_ff ?_
          conv => whnf
          exact and_ff hK2
        | some hi =>
          conv => whnf
          refine ⟨_, rfl, ?_⟩
          conv => whnf
          refine and_ff' ?_
          conv => whnf
          refine and_tt ?_
          conv => whnf
          refine and_tt ?_
          conv => whnf
          exact ⟨_, rfl, small_ok (by simp), .inl ⟨by decide, _, rfl, hK2⟩⟩
      · rw [decide_eq_false hc]
        dsimp only at hK2
        rw [if_neg hc] at hK2
        refine and_tf' ?_
        conv => whnf
        refine and_ff ?_
        conv => whnf
        exact and_ff hK2
    rw [List.nil_append, highs_eq]
    have ll := lows_len wish cc
    have lh := highs_len wish cc
    generalize lowsF wish cc = L at hy ll ⊢
    generalize highsF wish cc = H at hy lh ⊢
    conv => whnf
    refine ⟨_, rfl, small_ok (by simp; omega), ?_⟩
    conv => whnf
    cases L with
    | nil =>
      refine and_decide (fun q => absurd q (by simp)) (fun _ => ?_)
      conv => whnf
      refine ⟨_, rfl, small_ok (by simp; omega), ?_⟩
      conv => whnf
      cases H with
      | nil =>
        refine and_decide (fun q => absurd q (by simp)) (fun _ => ?_)
        conv => whnf
        refine ⟨_, rfl, small_ok (by simp; omega), ?_⟩
        refine compS_mapG dT (fun t => if t.col = cc then some (D.int 1) else none) trivial _ _ ?_ ?_
        · intro t ht K2 hK2
          obtain ⟨c, lo, hi⟩ := t
          conv => whnf
          refine ⟨_, rfl, small_ok (by simp), .inl ⟨by decide, _, rfl, ?_⟩⟩
          conv => whnf
          rw [nat_dec]
          by_cases hc : c = cc
          · rw [decide_eq_true hc]
            dsimp only at hK2
            rw [if_pos hc] at hK2
            refine and_tt ?_
            conv => whnf
            exact and_tt hK2
          · rw [decide_eq_false hc]
            dsimp only at hK2
            rw [if_neg hc] at hK2
            refine and_ff ?_
            conv => whnf
            exact and_ff hK2
        rw [List.nil_append]
        have hone := ones_len wish cc
        have hol : (wish.filterMap fun t => if t.col = cc then some (D.int 1) else none).length ≤ wish.length := List.length_filterMap_le _ _
        generalize (wish.filterMap fun t => if t.col = cc then some (D.int 1) else none) = ones at hone hol ⊢
        conv => whnf
        refine ⟨_, rfl, small_ok (by omega), ?_⟩
        conv => whnf
        refine and_decide (fun q => ?_) (fun q => ?_)
        · have hq := hone.mp (by omega)
          conv => whnf
          refine ⟨⟨xs, set_at _ _ _⟩, ?_⟩
          conv => whnf
          refine ⟨rfl, ?_⟩
          conv => whnf
          refine ⟨xs, set_at _ _ _, small_ok (by omega), ?_⟩
          rw [set_set]
          exact hy hq _ _ _ _ _
        · have hq : hasC wish cc = false := by
            cases e : hasC wish cc with
            | false => rfl
            | true => exact absurd (hone.mpr e) (by omega)
          exact hnn hq _ _ _ _ _
      | cons y v =>
        refine and_decide (fun _ => ?_) (fun q => absurd (by simp) q)
        conv => whnf
        refine ⟨y :: v, _, rfl, rfl, rfl, ?_⟩
        conv => whnf
        refine ⟨_, rfl, small_ok (by simp; omega), ?_⟩
        refine compS_mapG dT (fun t => if t.col = cc then some (D.int 1) else none) trivial _ _ ?_ ?_
        · intro t ht K2 hK2
          obtain ⟨c, lo, hi⟩ := t
          conv => whnf
          refine ⟨_, rfl, small_ok (by simp), .inl ⟨by decide, _, rfl, ?_⟩⟩
          conv => whnf
          rw [nat_dec]
          by_cases hc : c = cc
          · rw [decide_eq_true hc]
            dsimp only at hK2
            rw [if_pos hc] at hK2
            refine and_tt ?_
            conv => whnf
            exact and_tt hK2
          · rw [decide_eq_false hc]
            dsimp only at hK2
            rw [if_neg hc] at hK2
            refine and_ff ?_
            conv => whnf
            exact and_ff hK2
        rw [List.nil_append]
        have hone := ones_len wish cc
        have hol : (wish.filterMap fun t => if t.col = cc then some (D.int 1) else none).length ≤ wish.length := List.length_filterMap_le _ _
        generalize (wish.filterMap fun t => if t.col = cc then some (D.int 1) else none) = ones at hone hol ⊢
        conv => whnf
        refine ⟨_, rfl, small_ok (by omega), ?_⟩
        conv => whnf
        refine and_decide (fun q => ?_) (fun q => ?_)
        · have hq := hone.mp (by omega)
          conv => whnf
          refine ⟨⟨xs, set_at _ _ _⟩, ?_⟩
          conv => whnf
          refine ⟨rfl, ?_⟩
          conv => whnf
          refine ⟨xs, set_at _ _ _, small_ok (by omega), ?_⟩
          rw [set_set]
          exact hy hq _ _ _ _ _
        · have hq : hasC wish cc = false := by
            cases e : hasC wish cc with
            | false => rfl
            | true => exact absurd (hone.mpr e) (by omega)
          exact hnn hq _ _ _ _ _
    | cons x u =>
      refine and_decide (fun _ => ?_) (fun q => absurd (by simp) q)
      conv => whnf
      refine ⟨x :: u, _, rfl, rfl, rfl, ?_⟩
      conv => whnf
      refine ⟨_, rfl, small_ok (by simp; omega), ?_⟩
      conv => whnf
      cases H with
      | nil =>
        refine and_decide (fun q => absurd q (by simp)) (fun _ => ?_)
        conv => whnf
        refine ⟨_, rfl, small_ok (by simp; omega), ?_⟩
        refine compS_mapG dT (fun t => if t.col = cc then some (D.int 1) else none) trivial _ _ ?_ ?_
        · intro t ht K2 hK2
          obtain ⟨c, lo, hi⟩ := t
          conv => whnf
          refine ⟨_, rfl, small_ok (by simp), .inl ⟨by decide, _, rfl, ?_⟩⟩
          conv => whnf
          rw [nat_dec]
          by_cases hc : c = cc
          · rw [decide_eq_true hc]
            dsimp only at hK2
            rw [if_pos hc] at hK2
            refine and_tt ?_
            conv => whnf
            exact and_tt hK2
          · rw [decide_eq_false hc]
            dsimp only at hK2
            rw [if_neg hc] at hK2
            refine and_ff ?_
            conv => whnf
            exact and_ff hK2
        rw [List.nil_append]
        have hone := ones_len wish cc
        have hol : (wish.filterMap fun t => if t.col = cc then some (D.int 1) else none).length ≤ wish.length := List.length_filterMap_le _ _
        generalize (wish.filterMap fun t => if t.col = cc then some (D.int 1) else none) = ones at hone hol ⊢
        conv => whnf
        refine ⟨_, rfl, small_ok (by omega), ?_⟩
        conv => whnf
        refine and_decide (fun q => ?_) (fun q => ?_)
        · have hq := hone.mp (by omega)
          conv => whnf
          refine ⟨⟨xs, set_at _ _ _⟩, ?_⟩
          conv => whnf
          refine ⟨rfl, ?_⟩
          conv => whnf
          refine ⟨xs, set_at _ _ _, small_ok (by omega), ?_⟩
          rw [set_set]
          exact hy hq _ _ _ _ _
        · have hq : hasC wish cc = false := by
            cases e : hasC wish cc with
            | false => rfl
            | true => exact absurd (hone.mpr e) (by omega)
          exact hnn hq _ _ _ _ _
      | cons y v =>
        refine and_decide (fun _ => ?_) (fun q => absurd (by simp) q)
        conv => whnf
        refine ⟨y :: v, _, rfl, rfl, rfl, ?_⟩
        conv => whnf
        refine ⟨_, rfl, small_ok (by simp; omega), ?_⟩
        refine compS_mapG dT (fun t => if t.col = cc then some (D.int 1) else none) trivial _ _ ?_ ?_
        · intro t ht K2 hK2
          obtain ⟨c, lo, hi⟩ := t
          conv => whnf
          refine ⟨_, rfl, small_ok (by simp), .inl ⟨by decide, _, rfl, ?_⟩⟩
          conv => whnf
          rw [nat_dec]
          by_cases hc : c = cc
          · rw [decide_eq_true hc]
            dsimp only at hK2
            rw [if_pos hc] at hK2
            refine and_tt ?_
            conv => whnf
            exact and_tt hK2
          · rw [decide_eq_false hc]
            dsimp only at hK2
            rw [if_neg hc] at hK2
            refine and_ff ?_
            conv => whnf
            exact and_ff hK2
        rw [List.nil_append]
        have hone := ones_len wish cc
        have hol : (wish.filterMap fun t => if t.col = cc then some (D.int 1) else none).length ≤ wish.length := List.length_filterMap_le _ _
        generalize (wish.filterMap fun t => if t.col = cc then some (D.int 1) else none) = ones at hone hol ⊢
        conv => whnf
        refine ⟨_, rfl, small_ok (by omega), ?_⟩
        conv => whnf
        refine and_decide (fun q => ?_) (fun q => ?_)
        · have hq := hone.mp (by omega)
          conv => whnf
          refine ⟨⟨xs, set_at _ _ _⟩, ?_⟩
          conv => whnf
          refine ⟨rfl, ?_⟩
          conv => whnf
          refine ⟨xs, set_at _ _ _, small_ok (by omega), ?_⟩
          rw [set_set]
          exact hy hq _ _ _ _ _
        · have hq : hasC wish cc = false := by
            cases e : hasC wish cc with
            | false => rfl
            | true => exact absurd (hone.mpr e) (by omega)
          exact hnn hq _ _ _ _ _
  · rintro ρ σ' ⟨rfl, o2, o3, o4, o5, o6, rfl⟩
    rw [rangeD_length]
    exact retS_frz hf h

end Mine.L03

open PySem PyProof.Rows
set_option Elab.async false
namespace Mine.L03
set_option maxRecDepth 100000
set_option maxHeartbeats 4000000

theorem bitsGo_test : ∀ (ns : List Nat) (f k : Nat), (ns.foldl (fun f k => f ||| 2 ^ k) f).testBit k = (f.testBit k || ns.any fun j => decide (j = k))
  | [], f, k => by simp
  | j :: r, f, k => by
    rw [List.foldl_cons, bitsGo_test r, Nat.testBit_or, Nat.testBit_two_pow, List.any_cons, Bool.or_assoc]
theorem keys_eq (wish : List Tr) : keysOf (bitsOf (wish.map (·.col))) = (List.range 6).filter (hasC wish) := by
  unfold keysOf
  congr 1
  funext k
  unfold bitsOf hasC
  rw [bitsGo_test]
  simp [List.any_map, Function.comp_def]

def endF (c : Nat) (lo hi way : Int) : Tr :=
  if way = 0 then ⟨c, none, none⟩ else if way = 1 then ⟨c, some lo, none⟩ else if way = 2 then ⟨c, none, some lo⟩ else if way = 3 then ⟨c, some lo, some lo⟩ else ⟨c, some lo, some hi⟩
theorem endF_col (col : Nat) (lo hi way : Int) : (endF col lo hi way).col = col := by
  unfold endF; repeat (first | rfl | split)
def tripF (c m : Int) : Tr := endF (c % 6).toNat (valueF (c / 30)) (valueF m) (c / 6 % 5)
theorem tripF_col (c m : Int) : (tripF c m).col < 6 := by
  rw [tripF, endF_col]; omega
def S_triple : Spec := fun ds σ Φ => ∃ c m, ds = [.int c, .int m] ∧ Φ (dT (tripF c m)) σ

def S_alike : Spec := fun ds σ Φ => ∃ t : Tr, ds = [dT t, dT t] ∧ Φ (.bool true) σ
def S03 : Nat → Spec
  | 8 => S_value
  | 11 => S_whole
  | 12 => S_at
  | 13 => S_triple
  | 15 => S_merged
  | 16 => S_due
  | 17 => S_alike
  | _ => fun _ _ _ => False

theorem triple_vc (ds : List D) (σ : Store) (Φ : D → Store → Prop) (h : S_triple ds σ Φ) : ds.length = [0, 1].length ∧ vcSs S03 p_law_triple (initE [0, 1] ds 4) σ (retS Φ) := by
  obtain ⟨c, m, rfl, h⟩ := h
  refine ⟨rfl, ?_⟩
  have hc : (((c % 6).toNat : Nat) : Int) = c % 6 := Int.toNat_of_nonneg (Int.emod_nonneg _ (by decide))
  unfold tripF endF at h
  conv => whnf
  refine ⟨by decide, ?_⟩
  conv => whnf
  refine ⟨_, rfl, ?_⟩
  conv => whnf
  refine ⟨by decide, ?_⟩
  conv => whnf
  refine ⟨by decide, ?_⟩
  conv => whnf
  generalize c / 6 % 5 = way at h ⊢
  refine and_decide (fun e => ?_) (fun e => ?_)
  · rw [if_pos e, dT, hc] at h
    conv => whnf
    refine ⟨by decide, ?_⟩
    exact ⟨rfl, retS_ret h⟩
  · rw [if_neg e] at h
    conv => whnf
    refine and_decide (fun e => ?_) (fun e => ?_)
    · rw [if_pos e, dT, hc] at h
      conv => whnf
      refine ⟨by decide, ?_⟩
      exact ⟨rfl, retS_ret h⟩
    · rw [if_neg e] at h
      conv => whnf
      refine and_decide (fun e => ?_) (fun e => ?_)
      · rw [if_pos e, dT, hc] at h
        conv => whnf
        refine ⟨by decide, ?_⟩
        exact ⟨rfl, retS_ret h⟩
      · rw [if_neg e] at h
        conv => whnf
        refine and_decide (fun e => ?_) (fun e => ?_)
        · rw [if_pos e, dT, hc] at h
          conv => whnf
          refine ⟨by decide, ?_⟩
          exact ⟨rfl, retS_ret h⟩
        · rw [if_neg e, dT, hc] at h
          conv => whnf
          refine ⟨by decide, ?_⟩
          conv => whnf
          refine ⟨_, rfl, ?_⟩
          exact ⟨rfl, retS_ret h⟩

theorem tr_at (t : Tr) (k : Nat) (h : k < 3) : ∃ o : Option Int, [D.int t.col, dOpt t.lo, dOpt t.hi][((k : Nat) : Int).toNat]? = some (dOpt o) := by
  rw [Int.toNat_natCast]
  match k, h with
  | 0, _ => exact ⟨some t.col, rfl⟩
  | 1, _ => exact ⟨t.lo, rfl⟩
  | 2, _ => exact ⟨t.hi, rfl⟩

theorem alike_vc (ds : List D) (σ : Store) (Φ : D → Store → Prop) (h : S_alike ds σ Φ) : ds.length = [0, 1].length ∧ vcSs S03 p_law_alike (initE [0, 1] ds 3) σ (retS Φ) := by
  obtain ⟨t, rfl, h⟩ := h
  refine ⟨rfl, ?_⟩
  conv => whnf
  refine ⟨_, rfl, ?_⟩
  conv => whnf
  refine and_ff ?_
  conv => whnf
  refine ⟨_, rfl, small_ok (by simp), ?_⟩
  conv => whnf
  refine and_ff ?_
  conv => whnf
  refine ⟨_, rfl, small_ok (by simp), .inl ⟨by decide, _, rfl, ?_⟩⟩
  conv => whnf
  refine ⟨_, rfl, ?_⟩
  conv => whnf
  refine and_ff ?_
  conv => whnf
  refine and_ff ?_
  conv => whnf
  refine ⟨by decide, by decide, ?_⟩
  refine forS_inv (fun k ρ σ' => σ' = σ ∧ ∃ o, ρ = [some (dT t), some (dT t), o]) (fun _ _ _ _ => trivial) ?_ ?_ ⟨rfl, none, rfl⟩
  · rintro k d ρ σ' K hd ⟨rfl, o, rfl⟩ hK
    obtain ⟨rfl, hlt⟩ := rangeD_get hd
    obtain ⟨x, hx⟩ := tr_at t k (by omega)
    have hK' : K [some (dT t), some (dT t), some (.int k)] σ' := hK _ _ ⟨rfl, _, rfl⟩
    clear hK
    conv => whnf
    refine ⟨_, rfl, small_ok (by simp), .inl ⟨by omega, _, hx, ?_⟩⟩
    cases x with
    | none =>
      conv => whnf
      refine ⟨_, rfl, ?_⟩
      conv => whnf
      refine and_tt ?_
      conv => whnf
      refine and_tt ?_
      conv => whnf
      refine ⟨_, rfl, small_ok (by simp), .inl ⟨by omega, _, hx, ?_⟩⟩
      conv => whnf
      refine ⟨_, rfl, ?_⟩
      conv => whnf
      refine and_ff ?_
      conv => whnf
      refine ⟨_, rfl, small_ok (by simp), .inl ⟨by omega, _, hx, ?_⟩⟩
      conv => whnf
      refine ⟨_, rfl, ?_⟩
      conv => whnf
      refine and_ff ?_
      conv => whnf
      exact and_ff hK'
    | some i =>
      conv => whnf
      refine ⟨_, rfl, ?_⟩
      conv => whnf
      refine and_ff ?_
      conv => whnf
      refine ⟨_, rfl, small_ok (by simp), .inl ⟨by omega, _, hx, ?_⟩⟩
      conv => whnf
      refine ⟨_, rfl, ?_⟩
      conv => whnf
      refine and_ff ?_
      conv => whnf
      refine and_ff ?_
      conv => whnf
      refine ⟨_, rfl, small_ok (by simp), .inl ⟨by omega, _, hx, ?_⟩⟩
      conv => whnf
      refine ⟨_, rfl, ?_⟩
      conv => whnf
      refine and_ff ?_
      conv => whnf
      refine ⟨_, rfl, small_ok (by simp), .inl ⟨by omega, _, hx, ?_⟩⟩
      conv => whnf
      refine ⟨_, rfl, small_ok (by simp), .inl ⟨by omega, _, hx, ?_⟩⟩
      conv => whnf
      refine and_not_decide (fun q => absurd rfl q) (fun _ => ?_)
      conv => whnf
      exact and_ff hK'
  · rintro ρ σ' ⟨rfl, o, rfl⟩
    exact retS_ret h

theorem pl_dT (n : Nat) (t : Tr) : pl (n + 1) (dT t) := by
  intro x hx
  obtain ⟨c, lo, hi⟩ := t
  simp only [List.mem_cons, List.not_mem_nil, or_false] at hx
  rcases hx with rfl | rfl | rfl
  · cases n <;> exact trivial
  · cases lo <;> cases n <;> exact trivial
  · cases hi <;> cases n <;> exact trivial
theorem pl_wish (n : Nat) (w : List Tr) : pl (n + 2) (.list (w.map dT)) := pl_list dT w fun t _ => pl_dT n t

def E2 (sc : List Int) (size : Int) : PEnv := [some (dI sc), some (.int size), none, none, none, none, none, none]
def wishF (sc : List Int) (n : Nat) : List Tr := (List.range n).map fun k => tripF (sc.getD (1 + k) 0) (sc.getD (22 + k) 0)

theorem law_mid {sc : List Int} {n : Nat} {σ : Store} {Φ : D → Store → Prop} (hsc : sc.length ≤ 1000) (hn : n ≤ 1000) (h : Φ (.bool true) σ) : vcSs S03 (p_law.drop 2) (E2 sc n) σ (retS Φ) := by
  have h6 : ∀ t ∈ wishF sc n, t.col < 6 := fun t ht => by
    obtain ⟨k, _, rfl⟩ := List.mem_map.mp ht
    exact tripF_col _ _
  have hl : (wishF sc n).length = n := by simp [wishF]
  conv => whnf
  refine ⟨by unfold small; omega, by unfold small; omega, ?_⟩
  conv => whnf
  refine ⟨small_ok (by rw [rangeD_length]; omega), ?_⟩
  refine compS_mapG (fun (k : Nat) => D.int k) (fun k => some (dT (tripF (sc.getD (1 + k) 0) (sc.getD (22 + k) 0)))) trivial _ _ ?_ ?_
  · intro k hk K hK
    conv => whnf
    refine and_tt ?_
    conv => whnf
    refine ⟨sc, _, rfl, hsc, by omega, ?_⟩
    conv => whnf
    refine ⟨sc, _, rfl, hsc, by omega, ?_⟩
    have e1 : (1 + (k : Int)).toNat = 1 + k := by omega
    have e2 : (22 + (k : Int)).toNat = 22 + k := by omega
    rw [e1, e2]
    conv => whnf
    exact ⟨_, _, rfl, hK⟩
  have e0 : (List.range (n : Int).toNat).filterMap (fun k => some (dT (tripF (sc.getD (1 + k) 0) (sc.getD (22 + k) 0)))) = (wishF sc n).map dT := by
    rw [Int.toNat_natCast, List.filterMap_eq_map', wishF, List.map_map]; rfl
  rw [List.nil_append, e0]
  generalize wishF sc n = wish at *
  have hke := keys_eq wish
  conv => whnf
  refine ⟨_, rfl, small_ok (by simp; omega), ?_⟩
  conv => whnf
  refine ⟨wish, rfl, by omega, h6, ?_⟩
  conv => whnf
  refine ⟨wish, rfl, by omega, ?_⟩
  rw [hke]
  have hen : (((List.range 6).filter (hasC wish)).map (entT wish)).length ≤ 6 := by
    have := List.length_filter_le (hasC wish) (List.range 6)
    simp at this ⊢; omega
  generalize ((List.range 6).filter (hasC wish)).map (entT wish) = ent at *
  conv => whnf
  refine ⟨_, rfl, ?_⟩
  conv => whnf
  refine and_ff ?_
  conv => whnf
  refine ⟨_, rfl, small_ok (by simp; omega), ?_⟩
  conv => whnf
  refine ⟨_, rfl, small_ok (by simp; omega), ?_⟩
  conv => whnf
  rw [decide_eq_true rfl]
  refine and_ff ?_
  conv => whnf
  obtain ⟨x, ex, cx, qx⟩ := pl1 σ (pl_wish _ wish : pl 20 _)
  refine ⟨x, x, ex, ex, cx, cx, ?_⟩
  rw [qx]
  conv => whnf
  refine and_ff ?_
  conv => whnf
  refine and_ff ?_
  conv => whnf
  refine ⟨_, rfl, small_ok (by simp; omega), ?_⟩
  conv => whnf
  refine ⟨by unfold small; simp; omega, by unfold small; omega, ?_⟩
  refine forS_inv (fun k ρ σ' => σ' = σ ∧ ∃ o, ρ = [some (dI sc), some (.int n), o, some (.list (wish.map dT)), some (.list (wish.map dT)), some (.list (ent.map dT)), some (.list (ent.map dT)), none]) (fun _ _ _ _ => trivial) ?_ ?_ ⟨rfl, none, rfl⟩
  · rintro k d ρ σ' K hd ⟨rfl, o, rfl⟩ hK
    obtain ⟨rfl, hlt⟩ := rangeD_get hd
    have hlt' : k < ent.length := by simpa using hlt
    have hg : (ent.map dT)[((k : Nat) : Int).toNat]? = some (dT ent[k]) := by rw [Int.toNat_natCast]; exact get_map dT hlt'
    conv => whnf
    refine ⟨_, rfl, small_ok (by simp; omega), .inl ⟨by omega, _, hg, ?_⟩⟩
    conv => whnf
    refine ⟨_, rfl, small_ok (by simp; omega), .inl ⟨by omega, _, hg, ?_⟩⟩
    conv => whnf
    refine ⟨ent[k], rfl, ?_⟩
    conv => whnf
    exact and_ff (hK _ _ ⟨rfl, _, rfl⟩)
  · rintro ρ σ' ⟨rfl, o, rfl⟩
    exact retS_ret h

def S_law : Spec := fun ds σ Φ => ∃ sc, ds = [dI sc] ∧ sc.length ≤ 1000 ∧ Φ (.bool true) σ
theorem law_vc (ds : List D) (σ : Store) (Φ : D → Store → Prop) (h : S_law ds σ Φ) : ds.length = [0].length ∧ vcSs S03 p_law (initE [0] ds 8) σ (retS Φ) := by
  obtain ⟨sc, rfl, hsc, h⟩ := h
  refine ⟨rfl, ?_⟩
  conv => whnf
  refine ⟨sc, 0, rfl, hsc, by decide, ?_⟩
  conv => whnf
  refine ⟨by decide, ?_⟩
  conv => whnf
  refine ⟨sc, 0, rfl, hsc, by decide, ?_⟩
  conv => whnf
  refine ⟨by decide, ?_⟩
  conv => whnf
  refine ⟨by decide, ?_⟩
  conv => whnf
  generalize sc.getD (0 : Int).toNat 0 = s0
  refine and_decide (fun e => ?_) (fun e => ?_)
  · exact law_mid (n := 20) hsc (by omega) h
  · have e := Int.toNat_of_nonneg (Int.emod_nonneg s0 (show (7 : Int) ≠ 0 by decide))
    have l := Int.emod_lt_of_pos s0 (show (0 : Int) < 7 by decide)
    rw [← e]
    exact law_mid hsc (by omega) h
end Mine.L03

open PySem PySem.W PyProof.Rows
set_option Elab.async false
namespace Mine.L03
set_option maxRecDepth 100000 in
set_option maxHeartbeats 8000000 in
open_top hd for PySem.Challenge.rw_uf040016_03
set_option maxRecDepth 100000
set_option maxHeartbeats 4000000

def gv : Nat → Value
  | 0 => .builtin "sorted"
  | 1 => .type "set"
  | 2 => .builtin "max"
  | 3 => .builtin "min"
  | 4 => .builtin "isinstance"
  | 5 => .type "int"
  | 6 => .type "bool"
  | 7 => .builtin "len"
  | 8 => .ref 40
  | 9 => .type "range"
  | 10 => .type "tuple"
  | 11 => .ref 26
  | 12 => .ref 33
  | 13 => .ref 47
  | 14 => .type "list"
  | 15 => .ref 19
  | 16 => .ref 52
  | 17 => .ref 59
  | _ => .none
abbrev gl : List Nat := [0, 1, 2, 3, 4, 5, 6, 7, 8, 9, 10, 11, 12, 13, 14, 15, 16, 17]
abbrev tb (nm : Nat → Str) (fns : List Nat) : Tb := ⟨⟨nm, gn⟩, gv, gl, fns⟩

theorem globs (c : Cx) (KX : (hd.heap_39 c.w.params).In c.b) (B : ∀ x : Str, x ≠ "__name__" → c.mb x = bootBuiltins x) : ∀ g ∈ gl, c.glob (gn g) = some (gv g) := by
  refine List.forall_mem_cons.mpr ⟨globB (x := Str.ofString "sorted") (mg_none_of (n := Str.ofString "sorted") KX c.hg (by k_is)) B (by decide) (by boot_by_name), ?_⟩
  refine List.forall_mem_cons.mpr ⟨globB (x := Str.ofString "set") (mg_none_of (n := Str.ofString "set") KX c.hg (by k_is)) B (by decide) (by boot_by_name), ?_⟩
  refine List.forall_mem_cons.mpr ⟨globB (x := Str.ofString "max") (mg_none_of (n := Str.ofString "max") KX c.hg (by k_is)) B (by decide) (by boot_by_name), ?_⟩
  refine List.forall_mem_cons.mpr ⟨globB (x := Str.ofString "min") (mg_none_of (n := Str.ofString "min") KX c.hg (by k_is)) B (by decide) (by boot_by_name), ?_⟩
  refine List.forall_mem_cons.mpr ⟨globB (x := Str.ofString "isinstance") (mg_none_of (n := Str.ofString "isinstance") KX c.hg (by k_is)) B (by decide) (by boot_by_name), ?_⟩
  refine List.forall_mem_cons.mpr ⟨globB (x := Str.ofString "int") (mg_none_of (n := Str.ofString "int") KX c.hg (by k_is)) B (by decide) (by boot_by_name), ?_⟩
  refine List.forall_mem_cons.mpr ⟨globB (x := Str.ofString "bool") (mg_none_of (n := Str.ofString "bool") KX c.hg (by k_is)) B (by decide) (by boot_by_name), ?_⟩
  refine List.forall_mem_cons.mpr ⟨globB (x := Str.ofString "len") (mg_none_of (n := Str.ofString "len") KX c.hg (by k_is)) B (by decide) (by boot_by_name), ?_⟩
  refine List.forall_mem_cons.mpr ⟨globF (mg_of (n := Str.ofString "_law_value") KX c.hg (by k_is)), ?_⟩
  refine List.forall_mem_cons.mpr ⟨globB (x := Str.ofString "range") (mg_none_of (n := Str.ofString "range") KX c.hg (by k_is)) B (by decide) (by boot_by_name), ?_⟩
  refine List.forall_mem_cons.mpr ⟨globB (x := Str.ofString "tuple") (mg_none_of (n := Str.ofString "tuple") KX c.hg (by k_is)) B (by decide) (by boot_by_name), ?_⟩
  refine List.forall_mem_cons.mpr ⟨globF (mg_of (n := Str.ofString "_law_whole") KX c.hg (by k_is)), ?_⟩
  refine List.forall_mem_cons.mpr ⟨globF (mg_of (n := Str.ofString "_law_at") KX c.hg (by k_is)), ?_⟩
  refine List.forall_mem_cons.mpr ⟨globF (mg_of (n := Str.ofString "_law_triple") KX c.hg (by k_is)), ?_⟩
  refine List.forall_mem_cons.mpr ⟨globB (x := Str.ofString "list") (mg_none_of (n := Str.ofString "list") KX c.hg (by k_is)) B (by decide) (by boot_by_name), ?_⟩
  refine List.forall_mem_cons.mpr ⟨globF (mg_of (n := Str.ofString "merged") KX c.hg (by k_is)), ?_⟩
  refine List.forall_mem_cons.mpr ⟨globF (mg_of (n := Str.ofString "_law_due") KX c.hg (by k_is)), ?_⟩
  refine List.forall_mem_cons.mpr ⟨globF (mg_of (n := Str.ofString "_law_alike") KX c.hg (by k_is)), ?_⟩
  intro g hg; cases hg

theorem V_at (c : Cx) (KX : (hd.heap_39 c.w.params).In c.b) (B : ∀ x : Str, x ≠ "__name__" → c.mb x = bootBuiltins x) : Valid c 1 33 S_at := by
  refine fn_valid (t := tb nm_law_at []) (S := S03) (body := p_law_at) (vs := [0, 1]) (ps := [0, 1]) (nv := 2) ⟨globs c KX B, by intro g hg; cases hg⟩ (KX 33 _ (by k_is)) rfl (codeRec_of KX (by k_is)) ?_ rfl rfl rfl ?_ ?_ ?_ (at_vc S03)
  · kernel_rfl
  · kernel_rfl
  · kernel_rfl
  · intro us h
    match us, h with
    | [a, b], _ => rfl

theorem V_value (c : Cx) (KX : (hd.heap_39 c.w.params).In c.b) (B : ∀ x : Str, x ≠ "__name__" → c.mb x = bootBuiltins x) : Valid c 1 40 S_value := by
  refine fn_valid (t := tb nm_law_value []) (S := S03) (body := p_law_value) (vs := [0]) (ps := [0]) (nv := 1) ⟨globs c KX B, by intro g hg; cases hg⟩ (KX 40 _ (by k_is)) rfl (codeRec_of KX (by k_is)) ?_ rfl rfl rfl ?_ ?_ ?_ (value_vc S03)
  · kernel_rfl
  · kernel_rfl
  · kernel_rfl
  · intro us h
    match us, h with
    | [a], _ => rfl

theorem V_whole (c : Cx) (KX : (hd.heap_39 c.w.params).In c.b) (B : ∀ x : Str, x ≠ "__name__" → c.mb x = bootBuiltins x) : Valid c 1 26 S_whole := by
  refine fn_valid (t := tb nm_law_whole []) (S := S03) (body := p_law_whole) (vs := [0]) (ps := [0]) (nv := 1) ⟨globs c KX B, by intro g hg; cases hg⟩ (KX 26 _ (by k_is)) rfl (codeRec_of KX (by k_is)) ?_ rfl rfl rfl ?_ ?_ ?_ (whole_vc S03)
  · kernel_rfl
  · kernel_rfl
  · kernel_rfl
  · intro us h
    match us, h with
    | [a], _ => rfl

theorem V_merged (c : Cx) (KX : (hd.heap_39 c.w.params).In c.b) (B : ∀ x : Str, x ≠ "__name__" → c.mb x = bootBuiltins x) : Valid c 1 19 S_merged := by
  refine fn_valid (t := tb nm_merged []) (S := S03) (body := p_merged) (vs := [0, 1, 2, 3, 4]) (ps := [0]) (nv := 8) ⟨globs c KX B, by intro g hg; cases hg⟩ (KX 19 _ (by k_is)) rfl (codeRec_of KX (by k_is)) ?_ rfl rfl rfl ?_ ?_ ?_ (merged_vc S03)
  · kernel_rfl
  · kernel_rfl
  · kernel_rfl
  · intro us h
    match us, h with
    | [a], _ => rfl

theorem V_due (c : Cx) (KX : (hd.heap_39 c.w.params).In c.b) (B : ∀ x : Str, x ≠ "__name__" → c.mb x = bootBuiltins x) : Valid c 1 52 S_due := by
  refine fn_valid (t := tb nm_law_due []) (S := S03) (body := p_law_due) (vs := [0, 1, 2, 3, 4, 5, 6]) (ps := [0]) (nv := 10) ⟨globs c KX B, by intro g hg; cases hg⟩ (KX 52 _ (by k_is)) rfl (codeRec_of KX (by k_is)) ?_ rfl rfl rfl ?_ ?_ ?_ (due_vc S03)
  · kernel_rfl
  · kernel_rfl
  · kernel_rfl
  · intro us h
    match us, h with
    | [a], _ => rfl

theorem V_triple (c : Cx) (KX : (hd.heap_39 c.w.params).In c.b) (B : ∀ x : Str, x ≠ "__name__" → c.mb x = bootBuiltins x) : Valid c 2 47 S_triple := by
  refine fn_valid (t := tb nm_law_triple [8]) (S := S03) (body := p_law_triple) (vs := [0, 1, 2, 3]) (ps := [0, 1]) (nv := 4) ⟨globs c KX B, List.forall_mem_cons.mpr ⟨⟨_, rfl, (V_value c KX B).mono (by decide)⟩, by intro g hg; cases hg⟩⟩ (KX 47 _ (by k_is)) rfl (codeRec_of KX (by k_is)) ?_ rfl rfl rfl ?_ ?_ ?_ triple_vc
  · kernel_rfl
  · kernel_rfl
  · kernel_rfl
  · intro us h
    match us, h with
    | [a, b], _ => rfl

theorem V_alike (c : Cx) (KX : (hd.heap_39 c.w.params).In c.b) (B : ∀ x : Str, x ≠ "__name__" → c.mb x = bootBuiltins x) : Valid c 2 59 S_alike := by
  refine fn_valid (t := tb nm_law_alike [11]) (S := S03) (body := p_law_alike) (vs := [0, 1, 2]) (ps := [0, 1]) (nv := 3) ⟨globs c KX B, List.forall_mem_cons.mpr ⟨⟨_, rfl, (V_whole c KX B).mono (by decide)⟩, by intro g hg; cases hg⟩⟩ (KX 59 _ (by k_is)) rfl (codeRec_of KX (by k_is)) ?_ rfl rfl rfl ?_ ?_ ?_ alike_vc
  · kernel_rfl
  · kernel_rfl
  · kernel_rfl
  · intro us h
    match us, h with
    | [a, b], _ => rfl

theorem V_law (c : Cx) (KX : (hd.heap_39 c.w.params).In c.b) (B : ∀ x : Str, x ≠ "__name__" → c.mb x = bootBuiltins x) : Valid c 3 64 S_law := by
  refine fn_valid (t := tb nm_law [12, 13, 15, 16, 17]) (S := S03) (body := p_law) (vs := [0, 1, 2, 3, 4, 5, 6]) (ps := [0]) (nv := 8) ⟨globs c KX B, List.forall_mem_cons.mpr ⟨⟨_, rfl, (V_at c KX B).mono (by decide)⟩, List.forall_mem_cons.mpr ⟨⟨_, rfl, (V_triple c KX B).mono (by decide)⟩, List.forall_mem_cons.mpr ⟨⟨_, rfl, (V_merged c KX B).mono (by decide)⟩, List.forall_mem_cons.mpr ⟨⟨_, rfl, (V_due c KX B).mono (by decide)⟩, List.forall_mem_cons.mpr ⟨⟨_, rfl, (V_alike c KX B).mono (by decide)⟩, by intro g hg; cases hg⟩⟩⟩⟩⟩⟩ (KX 64 _ (by k_is)) rfl (codeRec_of KX (by k_is)) ?_ rfl rfl rfl ?_ ?_ ?_ law_vc
  · kernel_rfl
  · kernel_rfl
  · kernel_rfl
  · intro us h
    match us, h with
    | [a], _ => rfl

end Mine.L03
set_option maxRecDepth 100000 in
set_option maxHeartbeats 8000000 in
theorem PySem.Challenge.cw_uf040016_03_holds : PySem.Challenge.rw_uf040016_03.Holds :=
  Mine.L03.hd (by
  k_fill
  intro w s₀ s₁ mg mb G Y fa o pm cd doc dV kV ho hd hcd hD hmg hg args vals as hpre hlay hrd hwl hlo
  have KX := kIn_of Y
  refine Ground.open G ?_
  intro T B D TE TW
  wrow_args hpre hlay hrd hwl hlo
  refine enter_call ?_
  rename s₁.heap.IsList _ _ => hL
  rename IntsAre _ _ => hI
  rename ¬ ((63 : Nat) : Int) < _ => hm
  have e := (mg_of (n := Str.ofString "law") KX T.g (by k_is)).symm.trans hmg
  cases e
  refine Mine.law_good (c := ⟨_, w, s₁.heap, mg, mb, T.g, T.b, T.nolimit⟩) (Mine.L03.V_law _ KX T.builtins) rfl ?_ hL hI hg ⟨_, rfl, ?_, rfl⟩ ?_ ?_
  · exact ⟨rfl, by decide, by decide⟩
  · omega
  · intro x; rfl
  · wrow_post)
