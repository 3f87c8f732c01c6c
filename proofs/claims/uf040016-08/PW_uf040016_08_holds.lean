import PyProof.Rows.All
import Wide.All
import OpenK.AllK
import Wide.FinOn
import PySem.Challenge.RW_uf040016_08
set_option genSizeOf false
set_option genSizeOfSpec false
set_option genInjectivity false
set_option tactic.hygienic false
section
open PySem PyProof.Rows
set_option Elab.async false
namespace Mine
theorem lp0 {n i:Nat} (h:n - i=0) (hi:i≤n):i=n:=Nat.le_antisymm hi (Nat.le_of_sub_eq_zero h)
theorem lp1 {n i k:Nat} (h:n - i=k+1):i<n:=Nat.lt_of_sub_eq_succ h
theorem lp2 {n i k:Nat} (h:n - i=k+1):n - (i+1)=k:=(Nat.sub_succ n i).trans (congrArg Nat.pred h)
noncomputable def keysOf (f:Nat):List Nat:=(List.range 6).filter fun k=>f.testBit k
noncomputable def tabOf (f:Nat) (led:Bool):SetTable:=
  { mask:=if (keysOf f).length≤4 then 7 else 31,place:=(keysOf f).toArray,dummies:=#[],finger:=0,led:=led,moves:=if (keysOf f).length≤4 then 0 else 1,plain:=true }
noncomputable def tabPre (f k:Nat) (led:Bool):SetTable:={ tabOf f led with place:=(keysOf (f|||2 ^ k)).toArray }
noncomputable def posOf (f k:Nat):Nat:=((keysOf f).filter (·<k)).length
theorem free_ok:∀ f<(64:Nat),∀ k<(6:Nat),f.testBit k=false→∀ led:Bool,(tabOf f led).freeSlot (Int.ofNat k)=some (k,false):=by decide +kernel
theorem put_ok:∀ f<64,∀ k<6,f.testBit k=false→∀ led:Bool,(tabOf f led).put k=(tabPre f k led,posOf f k):=by decide +kernel
theorem keys_ins:∀ f<64,∀ k<6,f.testBit k=false→SetTable.insertAt (keysOf f).toArray (posOf f k) k=(keysOf (f|||2 ^ k)).toArray:=by decide +kernel
theorem len_ins:∀ f<64,∀ k<6,f.testBit k=false→(keysOf (f|||2 ^ k)).length=(keysOf f).length+1:=by decide +kernel
theorem fits_pre:∀ f<64,∀ k<6,f.testBit k=false→∀ led:Bool,(tabPre f k led).fits ((keysOf f).length+1)=true:=by decide +kernel
theorem fits_tab:∀ f<64,∀ led:Bool,(tabOf f led).fits (keysOf f).length=true:=by decide +kernel
theorem full_no:∀ f<64,∀ k<6,f.testBit k=false→∀ led:Bool,(tabPre f k led).tooFull=false→tabPre f k led=tabOf (f|||2 ^ k) led:=by decide +kernel
theorem full_yes1:∀ f<(64:Nat),∀ k<(6:Nat),f.testBit k=false→∀ led:Bool,(tabPre f k led).tooFull=true→
    ((tabPre f k led).relaid ((keysOf (f|||2 ^ k)).map Int.ofNat).toArray (SetTable.grown ((keysOf f).length+1))).map (·.1)=some (tabOf (f|||2 ^ k) led):=by decide +kernel
theorem full_yes2:∀ f<(64:Nat),∀ k<(6:Nat),f.testBit k=false→∀ led:Bool,(tabPre f k led).tooFull=true→
    (((tabPre f k led).relaid ((keysOf (f|||2 ^ k)).map Int.ofNat).toArray (SetTable.grown ((keysOf f).length+1))).elim false fun x=>x.2.toList==List.range ((keysOf f).length+1))=true:=by decide +kernel
theorem full_yes (f:Nat) (hf:f<64) (k:Nat) (hk:k<6) (h:f.testBit k=false) (led:Bool) (ht:(tabPre f k led).tooFull=true) :
    (tabPre f k led).relaid ((keysOf (f|||2 ^ k)).map Int.ofNat).toArray (SetTable.grown ((keysOf f).length+1))=some (tabOf (f|||2 ^ k) led,(List.range ((keysOf f).length+1)).toArray):=by
  have h1:=full_yes1 f hf k hk h led ht
  have h2:=full_yes2 f hf k hk h led ht
  generalize (tabPre f k led).relaid _ _=r at h1 h2 ⊢
  match r,h1,h2 with
  | some (a,b),h1,h2=>
    simp only [Option.map_some,Option.some.injEq] at h1
    have h3:b.toList=List.range ((keysOf f).length+1):=by simpa using h2
    rw [h1,← h3]
theorem or_lt:∀ f<64,∀ k<6,f|||2 ^ k<64:=by decide +kernel
theorem keys_has:∀ f<64,∀ k<6,(f.testBit k=true ↔ k∈keysOf f):=by decide +kernel
theorem keys_or:∀ f<64,∀ k<6,f.testBit k=true→f|||2 ^ k=f:=by decide +kernel
theorem below_ok:∀ f<64,∀ led:Bool,∀ i<(keysOf f).length,SetTable.below (tabOf f led).place (if i=0 then 0 else (keysOf f).getD (i - 1) 0+1)=i:=by decide +kernel
theorem below_end:∀ f<64,∀ led:Bool,SetTable.below (tabOf f led).place (if (keysOf f).length=0 then 0 else (keysOf f).getD ((keysOf f).length - 1) 0+1)=(keysOf f).length:=by decide +kernel
theorem covers_ok:∀ f<64,coversAll (List.range ((keysOf f).length+1)).toArray ((keysOf f).length+1)=true:=by decide +kernel
end Mine
end
section
open PySem PyProof.Rows
set_option Elab.async false
set_option maxRecDepth 100000
namespace Mine
noncomputable def EsOk (f:Nat) (es:Array (Int×Value)):Prop:=es.toList.map (·.1)=(keysOf f).map Int.ofNat∧∀ e∈es.toList,∃ t,e.2 = .int e.1 t
noncomputable def SetIs (h:Heap) (a:Addr) (f:Nat) (led:Bool):Prop:=∃ es ep,h.get? a=some ({ cls := .type "set",dict:=none,data := .set es ep (tabOf f led) }:Obj)∧EsOk f es
theorem EsOk.size {f:Nat} {es:Array (Int×Value)} (h:EsOk f es):es.size=(keysOf f).length:=by
  have:=congrArg List.length h.1
  simpa using this
theorem hash_small:∀ k<(6:Nat),hashInt (Int.ofNat k)=Int.ofNat k:=by decide +kernel
theorem keys_small {f k:Nat} (h:k∈keysOf f):k<6:=by
  unfold keysOf at h
  exact List.mem_range.mp (List.mem_filter.mp h).1
theorem EsOk.elems {prog:Program} {w:World} {f:Nat} {es:Array (Int×Value)} (h:EsOk f es):ElemsOf (intKind prog w) es.toList:=by
  intro e he
  obtain ⟨t,et⟩:=h.2 e he
  have hm:e.1∈es.toList.map (·.1):=List.mem_map_of_mem he
  rw [h.1] at hm
  obtain ⟨k,hk,ek⟩:=List.mem_map.mp hm
  refine ⟨⟨e.1,by rw [et]; exact intKind_is _ _ _ _,?_⟩,by rw [et]; rfl⟩
  show e.1=hashInt e.1
  rw [← ek,hash_small k (keys_small hk)]
theorem keys_le (f:Nat):(keysOf f).length≤6:=by
  unfold keysOf
  exact Nat.le_trans (List.length_filter_le _ _) (by simp)
theorem ins_map {α β:Type} (g:α→β) (xs:Array α) (p:Nat) (x:α):(SetTable.insertAt xs p x).toList.map g=(SetTable.insertAt (xs.map g) p (g x)).toList:=by
  unfold SetTable.insertAt
  simp [List.map_take,List.map_drop]
theorem ins_mem {α:Type} {xs:Array α} {p:Nat} {x y:α} (h:y∈(SetTable.insertAt xs p x).toList):y∈xs.toList∨y=x:=by
  unfold SetTable.insertAt at h
  simp only [Array.toList_append,Array.toList_push,List.mem_append,Array.toList_extract,List.mem_singleton] at h
  rcases h with (h | h) | h
  · left; exact List.mem_of_mem_take (i:=p) (by simpa [List.extract] using h)
  · right; exact h
  · left; exact List.mem_of_mem_drop (List.mem_of_mem_take (by simpa [List.extract] using h))
theorem EsOk.ins {f k:Nat} {es:Array (Int×Value)} (h:EsOk f es) (hf:f<64) (hk:k<6) (hn:f.testBit k=false) (t:Tok):EsOk (f|||2 ^ k) (SetTable.insertAt es (posOf f k) (Int.ofNat k,.int (Int.ofNat k) t)):=by
  refine ⟨?_,fun e he=>?_⟩
  · rw [ins_map]
    have h1:es.map (·.1)=((keysOf f).toArray.map Int.ofNat):=by
      apply Array.toList_inj.mp
      simpa using h.1
    rw [h1]
    have:=congrArg (fun a:Array Nat=>a.toList.map Int.ofNat) (keys_ins f hf k hk hn)
    rw [← ins_map Int.ofNat]
    simpa using this
  · rcases ins_mem he with he | rfl
    · exact h.2 e he
    · exact ⟨t,rfl⟩
theorem layNew_ok {f k:Nat} {es:Array (Int×Value)} (h:EsOk f es) (hf:f<64) (hk:k<6) (hn:f.testBit k=false) (led:Bool) (x:Value) :
    layNew (tabOf f led) es (Int.ofNat k) x=(SetTable.insertAt es (posOf f k) (Int.ofNat k,x),tabPre f k led,false,false):=by
  have hsz:(SetTable.insertAt es (posOf f k) (Int.ofNat k,x)).size=(keysOf f).length+1:=by
    have e1:((SetTable.insertAt es (posOf f k) (Int.ofNat k,x)).toList.map (·.1)).length=(keysOf (f|||2 ^ k)).length:=by
      rw [ins_map]
      have h1:es.map (·.1)=((keysOf f).toArray.map Int.ofNat):=by
        apply Array.toList_inj.mp
        simpa using h.1
      rw [h1,← ins_map Int.ofNat,keys_ins f hf k hk hn]
      simp
    rw [len_ins f hf k hk hn] at e1
    simpa using e1
  unfold layNew
  rw [free_ok f hf k hk hn led]
  dsimp only
  rw [put_ok f hf k hk hn led]
  dsimp only
  have hfit:=fits_pre f hf k hk hn led
  rw [hsz]
  unfold SetTable.orStandIn
  rw [hfit]
  rfl
theorem filterMap_range (es:Array (Int×Value)):(List.range es.size).toArray.filterMap (es[·]?)=es:=by
  apply Array.toList_inj.mp
  rw [Array.toList_filterMap]
  simp only []
  have:∀ l:List (Int×Value),(List.range l.length).filterMap (l[·]?)=l:=by
    intro l
    induction l with
    | nil=>rfl
    | cons a r ih=>
      rw [List.length_cons,List.range_succ_eq_map,List.filterMap_cons,List.filterMap_map]
      simpa [Function.comp_def] using ih
  have:=this es.toList
  simpa using this
theorem relay_ok {f k:Nat} {es:Array (Int×Value)} (hf:f<64) (hk:k<6) (hn:f.testBit k=false) (led:Bool) (h:EsOk (f|||2 ^ k) es) (ht:(tabPre f k led).tooFull=true) :
    relayAll (tabPre f k led) es (SetTable.grown es.size)=(es,tabOf (f|||2 ^ k) led,false):=by
  have hsz:es.size=(keysOf f).length+1:=by rw [h.size,len_ins f hf k hk hn]
  have h1:es.map (·.1)=((keysOf (f|||2 ^ k)).map Int.ofNat).toArray:=by
    apply Array.toList_inj.mp
    simpa using h.1
  unfold relayAll
  rw [h1,hsz,full_yes f hf k hk hn led ht]
  dsimp only
  rw [← hsz,filterMap_range,hsz,covers_ok f hf]
  have:=fits_tab (f|||2 ^ k) (or_lt f hf k hk) led
  rw [len_ins f hf k hk hn] at this
  rw [this]
  rfl
section
variable {prog:Program} {w:World} {A:Around} {E:Value→Shared→Prop} {s:Shared}
theorem add_ok {a:Addr} {f k:Nat} {led:Bool} {t:Tok} {Q:Bool→Shared→Prop} (hS:SetIs s.heap a f led) (hf:f<64) (hk:k<6)
    (h:∀ b h',Heap.SameBut a s.heap h'→SetIs h' a (f|||2 ^ k) led→Q b { s with heap:=h' }) :
    wpAny (model prog w) A (setAddHashed a (.int (Int.ofNat k) t) (hashInt (Int.ofNat k))) Q E s:=by
  obtain ⟨es,ep,ho,ok⟩:=hS
  have hfit:(tabOf f led).fits es.size=true:=by rw [ok.size]; exact fits_tab f hf led
  have hb:es.size<scanBound:=by rw [ok.size]; have:=keys_le f; unfold scanBound; omega
  have hel:ElemsOf (intKind prog w) es.toList:=ok.elems
  have hkey:=intKind_is prog w (Int.ofNat k) t
  unfold setAddHashed setAddHashedIn
  refine wpAny_holding (wpAny_bind (wpAny_setState_of ho rfl hfit ?_))
  dsimp only
  rw [byScan_of (knd:=intKind prog w) (x := .int (Int.ofNat k) t) rfl hb hel]
  simp only [↓reduceIte]
  unfold setAddByScan
  refine wpAny_bind ?_
  refine wpAny_bind (wpAny_rule ?_)
  refine wpAny_bind (wpAny_setScan_of (knd:=intKind prog w) hkey ho rfl hfit hel ?_)
  cases hr:List.findIdx? (fun e=>(intKind prog w).is (Int.ofNat k) e.2) es.toList with
  | some j=>
    dsimp only
    obtain ⟨hj,hpj,_⟩:=List.findIdx?_eq_some_iff_getElem.mp hr
    obtain ⟨t',et⟩:=ok.2 _ (List.getElem_mem hj)
    have e1:es.toList[j].1=Int.ofNat k:=by
      rw [et] at hpj
      simpa [intKind,Value.isInt] using hpj
    have hin:Int.ofNat k∈(keysOf f).map Int.ofNat:=by rw [← ok.1,← e1]; exact List.mem_map_of_mem (List.getElem_mem hj)
    obtain ⟨k',hk',ek⟩:=List.mem_map.mp hin
    have:k'=k:=Int.ofNat.inj ek
    subst this
    have hbit:=(keys_has f hf k' hk).mpr hk'
    refine wpAny_pure (wpAny_pure ?_)
    have e:s={ s with heap:=s.heap }:=by cases s; rfl
    rw [e]
    exact h _ s.heap (Heap.SameBut.refl a s.heap) (by rw [keys_or f hf k' hk hbit]; exact ⟨es,ep,ho,ok⟩)
  | none=>
    dsimp only
    have hn:f.testBit k=false:=by
      cases q:f.testBit k with
      | false=>rfl
      | true=>
        have hin:=(keys_has f hf k hk).mp q
        have hm:Int.ofNat k∈es.toList.map (·.1):=by rw [ok.1]; exact List.mem_map_of_mem hin
        obtain ⟨e,he,ee⟩:=List.mem_map.mp hm
        obtain ⟨t',et⟩:=ok.2 e he
        have:=List.findIdx?_eq_none_iff.mp hr e he
        rw [et,ee,intKind_is] at this
        exact Bool.noConfusion this
    rw [hash_small k hk,layNew_ok ok hf hk hn led]
    dsimp only
    have ok1:=ok.ins hf hk hn t
    have hz1:=ok1.size
    have hle:=keys_le (f|||2 ^ k)
    refine wpAny_bind (m:=_) (wpAny_pure (a:=()) ?_)
    have hpl:(tabPre f k led).plain=true:=rfl
    rw [hpl]
    simp only [↓reduceIte]
    refine wpAny_bind ?_
    rw [hashByValue_scannable 8 (x := .int (Int.ofNat k) t) rfl]
    refine wpAny_pure ?_
    simp only [plainKind,↓reduceIte]
    refine wpAny_bind (wpAny_storeSet_of ho rfl ?_ (by rw [hz1,sizeLine_eq]; omega))
    have hg1:(s.heap.update a (Obj.putSet (SetTable.insertAt es (posOf f k) (Int.ofNat k,.int (Int.ofNat k) t)) (tabPre f k led))).get? a=some ({ cls := .type "set",dict:=none,data := .set (SetTable.insertAt es (posOf f k) (Int.ofNat k,.int (Int.ofNat k) t)) (ep+1) (tabPre f k led) }:Obj):=by
      have:=Heap.get?_update_self (Obj.putSet (SetTable.insertAt es (posOf f k) (Int.ofNat k,.int (Int.ofNat k) t)) (tabPre f k led)) ho (by rw [putSet_of _ _ rfl]; rfl)
      rw [putSet_of _ _ rfl] at this
      exact this
    have hsb1:=Heap.SameBut.update s.heap a (Obj.putSet (SetTable.insertAt es (posOf f k) (Int.ofNat k,.int (Int.ofNat k) t)) (tabPre f k led))
    cases ht:(tabPre f k led).tooFull with
    | false=>
      simp only [Bool.not_false,Bool.true_and,Bool.false_eq_true,↓reduceIte]
      refine wpAny_pure (wpAny_pure ?_)
      exact h _ _ hsb1 ⟨_,_,by rw [hg1,full_no f hf k hk hn led ht],ok1⟩
    | true=>
      simp only [Bool.not_false,Bool.true_and,↓reduceIte]
      rw [relay_ok hf hk hn led ok1 ht]
      dsimp only
      refine wpAny_bind (wpAny_pure (a:=()) ?_)
      refine wpAny_bind (wpAny_storeSet_of hg1 rfl ?_ (by rw [hz1,sizeLine_eq]; omega))
      refine wpAny_pure (wpAny_pure ?_)
      refine h _ _ (hsb1.trans (Heap.SameBut.update _ a _)) ⟨_,ep+2,?_,ok1⟩
      have:=Heap.get?_update_self (Obj.putSet (SetTable.insertAt es (posOf f k) (Int.ofNat k,.int (Int.ofNat k) t)) (tabOf (f|||2 ^ k) led)) hg1 (by rw [putSet_of _ _ rfl]; rfl)
      rw [putSet_of _ _ rfl] at this
      exact this
end
noncomputable def SetAt (h:Heap) (a:Addr) (f:Nat) (led:Bool) (es:Array (Int×Value)) (ep:Nat):Prop:=h.get? a=some ({ cls := .type "set",dict:=none,data := .set es ep (tabOf f led) }:Obj)∧EsOk f es
noncomputable def ordOf (w:World) (a:Addr) (ep:Nat) (es:Array (Int×Value)):Array (Int×Value):=if w.params.followText "set-order" then pickOrder (w.params.setOrder a ep) es else es
noncomputable def slotAt (b:Bool) (f i:Nat):Nat:=if b then 0 else if i=0 then 0 else (keysOf f).getD (i - 1) 0+1
noncomputable def IsSetIter (h:Heap) (it a:Addr) (slot i n ep:Nat):Prop:=∃ o,h.get? it=some o∧o.cls = .type "set_iterator" ∧ o.data = .fields #[.int slot 0,.int i 0,.ref a,.int n 0,.int ep 0]
theorem IsSetIter.typeIs {s:Shared} {it a slot i n ep} (x:IsSetIter s.heap it a slot i n ep):s.TypeIs (.ref it) "set_iterator" := let ⟨o,ho,hc,_⟩:=x; ⟨o,ho,hc⟩
set_option tactic.hygienic true in
theorem pickGo_perm {α:Type} (next:Nat→Nat):∀ (n k:Nat) (l:List α) (out:Array α),l.length=n→(pickOrder.go next n k l out).toList.Perm (out.toList++l)
  | 0,k,l,out,h=>by
    have:l=[]:=List.length_eq_zero_iff.mp h
    subst this
    simp [pickOrder.go]
  | n + 1,k,l,out,h=>by
    have hlt:next k%l.length<l.length:=Nat.mod_lt _ (by omega)
    simp only [pickOrder.go,List.getElem?_eq_getElem hlt]
    refine (pickGo_perm next n (k+1) _ _ (by rw [List.length_eraseIdx_of_lt hlt]; omega)).trans ?_
    rw [Array.toList_push,List.append_assoc]
    refine List.Perm.append_left _ ?_
    rw [List.singleton_append]
    rw [List.eraseIdx_eq_take_drop_succ]
    have e:l=l.take (next k%l.length)++l[next k%l.length]::l.drop (next k%l.length+1):=by
      rw [← List.drop_eq_getElem_cons hlt,List.take_append_drop]
    conv=>rhs; rw [e]
    exact List.perm_middle.symm
theorem ord_perm (w:World) (a:Addr) (ep:Nat) (es:Array (Int×Value)):(ordOf w a ep es).toList.Perm es.toList:=by
  unfold ordOf
  split
  · have:=pickGo_perm (w.params.setOrder a ep) es.size 0 es.toList #[] (by simp)
    simpa [pickOrder] using this
  · exact List.Perm.refl _
theorem ord_size (w:World) (a:Addr) (ep:Nat) (es:Array (Int×Value)):(ordOf w a ep es).size=es.size:=by
  have:=(ord_perm w a ep es).length_eq
  simpa using this
namespace SF
theorem slot_set_iterator_next:Slot "set_iterator" "__next__" "set_iterator.__next__" :=
  .of (owner := "set_iterator") (n := "__next__") (by rw [typeLookup_type,builtinLookup_eq_fast]; kernel_rfl) (by decide +kernel) (by decide +kernel) (by decide +kernel)
    (by first | exact .inl (by decide +kernel) | exact .inr (by decide +kernel)) (by rw [isSubtype_type]; kernel_rfl)
theorem entry_set_iterator_next:entryFor table "set_iterator.__next__" = some Builtin.«set_iterator.__next__»:=entryFor_of_tree (by kernel_rfl)
theorem owner_set_iterator:Manifest.owners.lookup (String.ofList "set_iterator".toList.reverse.reverse)=some Manifest.sig_set_iterator:=by kernel_rfl
set_option tactic.hygienic true in
theorem args_set_iterator_next (a:Value):argsOk "set_iterator.__next__" ⟨[a],[]⟩:=by
  unfold argsOk; rw [signature?_of (id := "set_iterator.__next__") (n:=['_','_','t','x','e','n','_','_']) (o := "set_iterator".toList.reverse) (by kernel_rfl) owner_set_iterator]; kernel_rfl
theorem slot_set_iterator_iter:Slot "set_iterator" "__iter__" "set_iterator.__iter__" :=
  .of (owner := "set_iterator") (n := "__iter__") (by rw [typeLookup_type,builtinLookup_eq_fast]; kernel_rfl) (by decide +kernel) (by decide +kernel) (by decide +kernel)
    (by first | exact .inl (by decide +kernel) | exact .inr (by decide +kernel)) (by rw [isSubtype_type]; kernel_rfl)
theorem args_set_iterator_iter (a:Value):argsOk "set_iterator.__iter__" ⟨[a],[]⟩:=by
  unfold argsOk; rw [signature?_of (id := "set_iterator.__iter__") (n:=['_','_','r','e','t','i','_','_']) (o := "set_iterator".toList.reverse) (by kernel_rfl) owner_set_iterator]; kernel_rfl
theorem entry_set_iterator_iter:entryFor table "set_iterator.__iter__" = some Builtin.«dict_keyiterator.__iter__»:=
  entryFor_alias (id' := "dict_keyiterator.__iter__") (by kernel_rfl) rfl (by decide +kernel) (by kernel_rfl)
theorem entry_set_iter:entryFor table "set.__iter__" = some Builtin.«frozenset.__iter__»:=
  entryFor_alias (id' := "frozenset.__iter__") (by kernel_rfl) rfl (by decide +kernel) (by kernel_rfl)
end SF
section
variable {prog:Program} {w:World} {A:Around} {E:Value→Shared→Prop} {s:Shared}
theorem state_ok {a:Addr} {f:Nat} {led:Bool} {es:Array (Int×Value)} {ep:Nat} {Q:(Array (Int×Value)×Nat×SetTable)→Shared→Prop} (hf:f<64) (h:SetAt s.heap a f led es ep) (hQ:Q (es,ep,tabOf f led) s):wpAny (model prog w) A (setState a) Q E s:=
  wpAny_setState_of h.1 rfl (by rw [h.2.size]; exact fits_tab f hf led) hQ
theorem byText_ok {Q:Bool→Shared→Prop} (h:Q (w.params.followText "set-order") s):wpAny (model prog w) A setsByText Q E s:=by
  unfold setsByText
  exact wpAny_bind (wpAny_askSetting (wpAny_pure h))
theorem walk_text {a:Addr} {f:Nat} {led:Bool} {es:Array (Int×Value)} {ep:Nat} {Q:Array (Int×Value)→Shared→Prop} (hf:f<64) (h:SetAt s.heap a f led es ep) (hb:w.params.followText "set-order" = true) (hQ:Q (ordOf w a ep es) s):wpAny (model prog w) A (setWalk a) Q E s:=by
  unfold setWalk
  refine wpAny_bind (state_ok hf h ?_)
  dsimp only
  refine wpAny_bind (byText_ok ?_)
  rw [hb]
  simp only [↓reduceIte]
  refine wpAny_bind (wpAny_askSetting (wpAny_pure ?_))
  unfold ordOf at hQ
  rw [if_pos hb] at hQ
  exact hQ
theorem next_ok {a:Addr} {f:Nat} {es:Array (Int×Value)} {ep i:Nat} {Q:Option (Value×Nat)→Shared→Prop} (hf:f<64) (h:SetAt s.heap a f (!w.params.followText "set-order") es ep) (hi:i≤(keysOf f).length)
    (hQ:Q ((ordOf w a ep es)[i]?.map fun e=>(e.2,slotAt (w.params.followText "set-order") f (i+1))) s):wpAny (model prog w) A (setNext a (slotAt (w.params.followText "set-order") f i) i ep) Q E s:=by
  unfold setNext
  refine wpAny_bind (state_ok hf h ?_)
  dsimp only
  refine wpAny_bind (byText_ok ?_)
  cases hb:w.params.followText "set-order" with
  | true=>
    rw [hb] at hQ
    simp only [↓reduceIte]
    rw [if_neg (by simp)]
    refine wpAny_bind (walk_text hf h hb ?_)
    refine wpAny_pure ?_
    simp only [slotAt,↓reduceIte] at hQ ⊢
    exact hQ
  | false=>
    rw [hb] at hQ h
    simp only [Bool.false_eq_true,↓reduceIte]
    refine wpAny_ite_split (fun hab=>absurd (show false=true from hab) Bool.false_ne_true) (fun _=>?_)
    refine wpAny_bind (wpAny_pure (a:=()) ?_)
    have ho:ordOf w a ep es=es:=by unfold ordOf; rw [hb]; rfl
    rw [ho] at hQ
    have hsz:=h.2.size
    have hpl:∀ j:Nat,(tabOf f (!false)).place[j]?=(keysOf f)[j]?:=fun j=>by simp [tabOf]
    rcases Nat.lt_or_ge i (keysOf f).length with hlt | hge
    · have hbel:SetTable.below (tabOf f (!false)).place (slotAt false f i)=i:=below_ok f hf _ i hlt
      rw [hbel,hpl]
      have e1:es[i]?=some es[i]:=Array.getElem?_eq_getElem (by omega)
      have e2:(keysOf f)[i]?=some (keysOf f)[i]:=List.getElem?_eq_getElem hlt
      rw [e1] at hQ ⊢
      rw [e2]
      refine wpAny_pure ?_
      have e3:slotAt false f (i+1)=(keysOf f)[i]+1:=by
        simp [slotAt,List.getD_eq_getElem?_getD,e2]
      rw [e3] at hQ
      exact hQ
    · have hi':i=(keysOf f).length:=by omega
      have hbel:SetTable.below (tabOf f (!false)).place (slotAt false f i)=i:=by rw [hi']; exact below_end f hf _
      rw [hbel]
      have e1:es[i]?=none:=Array.getElem?_eq_none (by omega)
      rw [e1] at hQ ⊢
      exact wpAny_pure hQ
theorem pyIter_set {a:Addr} {f:Nat} {led:Bool} {es:Array (Int×Value)} {ep:Nat} {Q:Value→Shared→Prop} (hf:f<64) (h:SetAt s.heap a f led es ep)
    (hQ:Q (.ref s.heap.objs.size) { s with heap:=s.heap.push { cls := .type "set_iterator",data := .fields #[.int 0 0,.int 0 0,.ref a,.int es.size 0,.int ep 0] } }):wpAny (model prog w) A (pyIter (.ref a)) Q E s:=by
  have hT:s.TypeIs (.ref a) "set" := ⟨_,h.1,rfl⟩
  refine wpAny_pyIter_slot hT F.slot_set_iter (wpAny_call_entry F.slot_set_iter hT SF.entry_set_iter ?_ (F.args_set_iter_1 _))
  unfold Builtin.«frozenset.__iter__»
  refine wpAny_bind (wpAny_pure (a:=a) ?_)
  refine wpAny_bind ?_
  unfold Builtin.Frozenset.sizeOf setEntries
  refine wpAny_bind (wpAny_bind (state_ok hf h (wpAny_pure ?_)))
  refine wpAny_pure ?_
  refine wpAny_bind ?_
  unfold setDrawn
  refine wpAny_bind (state_ok hf h ?_)
  dsimp only
  refine wpAny_bind (byText_ok ?_)
  refine wpAny_pure ?_
  refine wpAny_ite_split (fun hab=>absurd (show (!w.params.followText "set-order" && false)=true from hab) (by simp)) (fun _=>?_)
  refine wpAny_bind (wpAny_pure (a:=rawInt 0) ?_)
  unfold setEpoch
  refine wpAny_bind (wpAny_bind (state_ok hf h (wpAny_pure ?_)))
  unfold newFields
  refine wpAny_bind (wpAny_newObj_type (wpAny_pure ⟨_,rfl, "set_iterator",_,⟨_,Heap.get?_push_size _ rfl,rfl⟩,SF.slot_set_iterator_next.lookup,?_⟩))
  exact hQ
end
end Mine
end
section
open PySem PySem.W PyProof.Rows
set_option Elab.async false
set_option maxRecDepth 100000
namespace Mine
section
variable {prog:Program} {w:World} {A:Around} {E:Value→Shared→Prop} {s:Shared}
set_option tactic.hygienic true in
theorem pyNext_set_item {it a:Addr} {f:Nat} {es:Array (Int×Value)} {ep i:Nat} {e:Int×Value} {Q:Option Value→Shared→Prop} (hf:f<64) (h:SetAt s.heap a f (!w.params.followText "set-order") es ep)
    (hit:IsSetIter s.heap it a (slotAt (w.params.followText "set-order") f i) i es.size ep) (he:(ordOf w a ep es)[i]?=some e)
    (hQ:∀ h',IsSetIter h' it a (slotAt (w.params.followText "set-order") f (i+1)) (i+1) es.size ep→Heap.SameBut it s.heap h'→Q (some e.2) { s with heap:=h' }) :
    wpAny (model prog w) A (pyNext (.ref it)) Q E s:=by
  obtain ⟨o,ho,hc,hd⟩:=id hit
  have hi:i≤(keysOf f).length:=by
    have:=(Array.getElem?_eq_some_iff.mp he).1
    rw [ord_size,h.2.size] at this
    omega
  unfold pyNext
  refine wpAny_bind (wpAny_attempt (wpAny_callSpecial?_slot (name:=Str.ofString "__next__") hit.typeIs SF.slot_set_iterator_next
    (wpAny_call_entry SF.slot_set_iterator_next hit.typeIs SF.entry_set_iterator_next ?_ (SF.args_set_iterator_next _))))
  unfold Builtin.«set_iterator.__next__»
  refine wpAny_bind (wpAny_pure (a:=(Value.ref it,[])) ?_)
  refine wpAny_bind (wpAny_fieldsOf ho hd ?_)
  dsimp only
  unfold setEntries
  refine wpAny_bind (wpAny_bind (state_ok hf h (wpAny_pure ?_)))
  rw [if_neg (by simp)]
  simp only [Int.toNat_natCast]
  refine wpAny_bind (next_ok hf h hi ?_)
  rw [he]
  dsimp only [Option.map_some]
  refine wpAny_bind (wpAny_setField ho hd (by simp) ?_)
  have hd1:(Obj.mapFields (·.setIfInBounds 0 (rawInt (slotAt (w.params.followText "set-order") f (i+1):Nat))) o).data = .fields #[.int (slotAt (w.params.followText "set-order") f (i+1):Nat) 0,.int i 0,.ref a,.int es.size 0,.int ep 0]:=by
    rw [Obj.data_mapFields hd]; simp [rawInt]
  have ho1:=Heap.get?_update_self (Obj.mapFields (·.setIfInBounds 0 (rawInt (slotAt (w.params.followText "set-order") f (i+1):Nat)))) ho (Obj.isFreed_of_fields hd1)
  refine wpAny_bind (wpAny_setField ho1 hd1 (by simp) ?_)
  have hd2:(Obj.mapFields (·.setIfInBounds 1 (rawInt ((i:Int)+1))) (Obj.mapFields (·.setIfInBounds 0 (rawInt (slotAt (w.params.followText "set-order") f (i+1):Nat))) o)).data = .fields #[.int (slotAt (w.params.followText "set-order") f (i+1):Nat) 0,.int ((i+1:Nat):Int) 0,.ref a,.int es.size 0,.int ep 0]:=by
    rw [Obj.data_mapFields hd1]; simp [rawInt]
  have ho2:=Heap.get?_update_self (Obj.mapFields (·.setIfInBounds 1 (rawInt ((i:Int)+1)))) ho1 (Obj.isFreed_of_fields hd2)
  show wpAny _ _ (ret e.2) _ _ _
  refine wpAny_pure ⟨_,rfl,wpAny_pure (hQ _ ⟨_,ho2,?_,hd2⟩ ((Heap.SameBut.update ..).trans (Heap.SameBut.update ..)))⟩
  exact (Obj.cls_mapFields ..).trans ((Obj.cls_mapFields ..).trans hc)
set_option tactic.hygienic true in
theorem pyNext_set_end {it a:Addr} {f:Nat} {es:Array (Int×Value)} {ep:Nat} {Q:Option Value→Shared→Prop} (hh:A.handled=none) (hf:f<64) (h:SetAt s.heap a f (!w.params.followText "set-order") es ep)
    (hit:IsSetIter s.heap it a (slotAt (w.params.followText "set-order") f es.size) es.size es.size ep)
    (hQ:∀ h',Heap.ExtBut it s.heap h'→Q none { s with heap:=h' }) :
    wpAny (model prog w) A (pyNext (.ref it)) Q E s:=by
  obtain ⟨o,ho,hc,hd⟩:=id hit
  unfold pyNext
  refine wpAny_bind (wpAny_attempt (wpAny_callSpecial?_slot (name:=Str.ofString "__next__") hit.typeIs SF.slot_set_iterator_next
    (wpAny_call_entry SF.slot_set_iterator_next hit.typeIs SF.entry_set_iterator_next ?_ (SF.args_set_iterator_next _))))
  unfold Builtin.«set_iterator.__next__»
  refine wpAny_bind (wpAny_pure (a:=(Value.ref it,[])) ?_)
  refine wpAny_bind (wpAny_fieldsOf ho hd ?_)
  dsimp only
  unfold setEntries
  refine wpAny_bind (wpAny_bind (state_ok hf h (wpAny_pure ?_)))
  rw [if_neg (by simp)]
  simp only [Int.toNat_natCast]
  refine wpAny_bind (next_ok hf h (by rw [h.2.size]; exact Nat.le_refl _) ?_)
  rw [Array.getElem?_eq_none (by rw [ord_size]; exact Nat.le_refl _)]
  dsimp only [Option.map_none]
  refine wpAny_bind (wpAny_setField ho hd (by simp) ?_)
  show wpAny _ _ (newExc (.type "StopIteration") [] >>= _) _ _ _
  refine wpAny_bind ?_
  simp only [newExc,newTuple]
  refine wpAny_bind (wpAny_newObj_type ?_ (by size_fits))
  refine wpAny_bind (m:=firstArgMember _ _) (wpAny_of_eq (a:=Value.none) (by first | rfl | (simp only [firstArgMember]; rfl)) ?_)
  refine wpAny_newObj_type ?_ (by size_fits)
  simp only [raiseNew]
  refine wpAny_bind (wpAny_handled ?_)
  rw [show A.in1.handled=none from hh]
  refine wpAny_bind (wpAny_pure (wpAny_throw ?_))
  refine wpAny_bind (wpAny_isInstance (T := "StopIteration") (b:=true) ⟨_,Heap.get?_push_size _ rfl,rfl⟩ isSubtype_stop ?_)
  exact wpAny_pure (hQ _ (((Heap.SameBut.update ..).extBut.push _).push _))
theorem pyIter_setiter {it a:Addr} {slot i n ep:Nat} {Q:Value→Shared→Prop} (hit:IsSetIter s.heap it a slot i n ep) (h:Q (.ref it) s):wpAny (model prog w) A (pyIter (.ref it)) Q E s:=by
  refine wpAny_pyIter_slot hit.typeIs SF.slot_set_iterator_iter (wpAny_call_entry SF.slot_set_iterator_iter hit.typeIs SF.entry_set_iterator_iter ?_ (SF.args_set_iterator_iter _))
  show wpAny _ _ (ret (.ref it)) _ _ s
  exact wpAny_pure ⟨_,rfl, "set_iterator",_,hit.typeIs,SF.slot_set_iterator_next.lookup,h⟩
theorem walks_set (hh:A.handled=none) (I a:Addr) (hne:a≠I) {f:Nat} (hf:f<64) (es:Array (Int×Value)) (ep:Nat) :
    Walks prog w A I [I,a] [I] es.size (fun i v=>∃ e,(ordOf w a ep es)[i]?=some e∧v=e.2) (fun i h=>IsSetIter h I a (slotAt (w.params.followText "set-order") f i) i es.size ep∧SetAt h a f (!w.params.followText "set-order") es ep) where
  sub:=fun b hb=>by simp at hb; simp [hb]
  frame:=fun _ _ _ st hk=>⟨let ⟨o,ho,r⟩:=st.1; ⟨o,hk I (by simp) o ho,r⟩,hk a (by simp) _ st.2.1,st.2.2⟩
  item:=fun i s Q E hi st hQ=>by
    obtain ⟨e,he⟩:∃ e,(ordOf w a ep es)[i]?=some e:=⟨_,Array.getElem?_eq_getElem (by rw [ord_size]; exact hi)⟩
    refine pyNext_set_item hf st.2 st.1 he fun h' hit' hs'=>?_
    exact hQ _ h' s.toks ⟨_,he,rfl⟩ ⟨hit',hs'.extBut a _ hne st.2.1,st.2.2⟩ fun b o hb e=>hs'.extBut b o (fun h=>hb (by simp [h])) e
  done:=fun s Q E st hQ=>pyNext_set_end hh hf st.2 st.1 fun h' he'=>hQ h' s.toks fun b o hb e=>he' b o (fun h=>hb (by simp [h])) e
  self:=fun _ _ _ _ st hQ=>pyIter_setiter st.1 hQ
theorem hint_set {r:Addr} {Q:Bool→Shared→Prop} (hT:s.TypeIs (.ref r) "set") (h:Q false s):wpAny (model prog w) A (Builtin.List.listLengthHint (.ref r)) Q E s:=by
  unfold Builtin.List.listLengthHint
  refine wpAny_bind (wpAny_specialOf hT F.slot_set_len.lookup ?_)
  generalize hid:("set.__len__" : String)=id0
  wp_delta
  rw [show splitId id0=some ("set", "__len__") from by subst hid; decide +kernel]
  subst hid
  refine wpAny_bind (wpAny_isInstance (T := "set") (b:=true) hT (by rw [isSubtype_type]; kernel_rfl) ?_)
  refine wpAny_ite_split (fun hab=>absurd hab (by decide)) (fun _=>?_)
  refine wpAny_ite_split (fun _=>?_) (fun hab=>absurd (by decide +kernel) hab)
  refine wpAny_bind (wpAny_typeOf hT ?_)
  exact wpAny_pure h
theorem src_set {a:Addr} {f:Nat} (hf:f<64) (es:Array (Int×Value)) (ep:Nat) :
    KdlSrc prog w "set" a a es.size (fun i v=>∃ e,(ordOf w a ep es)[i]?=some e∧v=e.2) (fun h=>SetAt h a f (!w.params.followText "set-order") es ep) where
  type:=fun _ hm=>⟨_,hm.1,rfl⟩
  there:=fun _ hm=>⟨Heap.lt_size hm.1,Heap.lt_size hm.1⟩
  keep:=fun _ _ hm hk=>⟨hk a (.inl rfl) _ hm.1,hm.2⟩
  notList:=by decide
  notTuple:=by decide
  hint:=fun _ _ _ _ hm hq=>hint_set ⟨_,hm.1,rfl⟩ hq
  iter:=fun _ s hh hm=>⟨_,_,(fun _ _ hq=>pyIter_set hf hm hq),walks_set hh _ a (Nat.ne_of_lt (Heap.lt_size hm.1)) hf es ep,⟨⟨_,Heap.get?_push_size _ rfl,rfl,by simp [slotAt]⟩,Heap.get?_push_of_some _ hm.1,hm.2⟩⟩
end
noncomputable def bitsOf (ns:List Nat):Nat:=ns.foldl (fun f k=>f|||2 ^ k) 0
theorem bitsGo_lt:∀ (ns:List Nat) (f:Nat),f<64→(∀ k∈ns,k<6)→ns.foldl (fun f k=>f|||2 ^ k) f<64
  | [],_,h,_=>h
  | k::r,f,h,h6=>bitsGo_lt r _ (or_lt f h k (h6 k List.mem_cons_self)) fun j hj=>h6 j (List.mem_cons_of_mem _ hj)
theorem bits_lt {ns:List Nat} (h6:∀ k∈ns,k<6):bitsOf ns<64:=bitsGo_lt ns 0 (by decide) h6
theorem bits_take {ns:List Nat} {i:Nat} (h:i<ns.length):bitsOf (ns.take (i+1))=bitsOf (ns.take i)|||2 ^ (ns.getD i 0):=by
  unfold bitsOf
  rw [List.take_succ_eq_append_getElem h,List.foldl_append]
  simp [List.getD_eq_getElem?_getD,h]
section
variable {prog:Program} {w:World} {A:Around} {R:Result→Shared→Prop} {I:Addr} {fp wr:List Addr} {G:Array GenState→Array GenState→Prop} {n:Nat} {P:Nat→Value→Prop} {St:Nat→Shared→Prop}
theorem upd_loop (W:WalksS prog w A.in1 I fp wr G n P St) (S:Addr) (hSf:S ∉ fp) (led:Bool) (ns:List Nat) (hn:ns.length=n) (h6:∀ k∈ns,k<6) (hval:∀ i v,P i v→∃ t,v = .int (Int.ofNat (ns.getD i 0)) t) :
    ∀ (k i:Nat) (s:Shared),n - i=k→i≤n→St i s→SetIs s.heap S (bitsOf (ns.take i)) led→
      (∀ s',Moved (S::wr) G s s'→SetIs s'.heap S (bitsOf ns) led→R (.ok (.ret .none)) s')→
      codeAny (model prog w) A (.builtin "set.update.loop" ⟨[.ref S,.ref I],[]⟩) R s:=by
  have hSw:S ∉ wr:=fun h=>hSf (W.sub _ h)
  have hsub:∀ b∈wr,b∈S::wr:=fun b hb=>List.mem_cons_of_mem _ hb
  intro k
  induction k with
  | zero=>
    intro i s hk hi hst hS hR
    have hin:i=n:=lp0 hk hi
    subst hin
    refine codeAny_builtin F.entry_set_update_loop ?_
    rw [Around.under_plainId F.plain_set_update_loop _]
    show wpAny _ A.in1 (pyNext (.ref I) >>= _) _ _ s
    refine wpAny_bind (W.done s _ _ hst fun s' hm=>?_)
    show wpAny _ A.in1 (ret Value.none) _ _ s'
    refine wpAny_pure (hR s' (hm.mono hsub) ?_)
    obtain ⟨es,ep,ho,ok⟩:=hS
    rw [List.take_of_length_le (Nat.le_of_eq hn)] at ho ok
    exact ⟨es,ep,hm.heap S _ hSw ho,ok⟩
  | succ k ih=>
    intro i s hk hi hst hS hR
    have hlt:i<n:=lp1 hk
    refine codeAny_builtin F.entry_set_update_loop ?_
    rw [Around.under_plainId F.plain_set_update_loop _]
    show wpAny _ A.in1 (pyNext (.ref I) >>= _) _ _ s
    refine wpAny_bind (W.item i s _ _ hlt hst fun v s' hP hst' hm=>?_)
    obtain ⟨t,rfl⟩:=hval i v hP
    have hS':SetIs s'.heap S (bitsOf (ns.take i)) led:=by
      obtain ⟨es,ep,ho,ok⟩:=hS
      exact ⟨es,ep,hm.heap S _ hSw ho,ok⟩
    have hk6:ns.getD i 0<6:=by
      rw [List.getD_eq_getElem?_getD,List.getElem?_eq_getElem (hn▸hlt)]
      exact h6 _ (List.getElem_mem _)
    show wpAny _ A.in1 (holding [Value.int (Int.ofNat (ns.getD i 0)) t] (setAdd S (.int (Int.ofNat (ns.getD i 0)) t)) >>= _) _ _ s'
    refine wpAny_bind (wpAny_holding ?_)
    unfold setAdd
    refine wpAny_holding ?_
    refine wpAny_bind ((intKind prog w).pyHash (k:=Int.ofNat (ns.getD i 0)) (intKind_is _ _ _ _) ?_)
    refine add_ok (s:={ s' with toks:=s'.toks+1 }) hS' (bits_lt fun k hk=>h6 k (List.mem_of_mem_take hk)) hk6 fun b h' hsb hS2=>?_
    rw [← bits_take (hn▸hlt)] at hS2
    refine wpAny_pure ⟨plainId_quiet F.plain_set_update_loop _,ih (i+1) _ (lp2 hk) hlt (W.frame _ s' _ _ hst' (Nat.le_succ _) fun b hb o e=>?_) hS2 fun s'' hm'' hS''=>?_⟩
    · rw [hsb.2 b (fun h:b=S=>hSf (by rw [← h]; exact hb))]; exact e
    · refine hR s'' (Moved.trans W.gtrans ((hm.mono hsub).then_heap (Nat.le_succ _) fun b o hb e=>?_) hm'') hS''
      rw [hsb.2 b (fun h:b=S=>hb (by rw [h]; exact List.mem_cons_self))]; exact e
end
section
variable {prog:Program} {w:World} {A:Around} {E:Value→Shared→Prop} {s:Shared}
theorem set_new_1 (a:Value) {Q₁:Value→Shared→Prop}
    (h:Q₁ (.ref s.heap.objs.size) { s with heap:=s.heap.push { cls := .type "set",dict:=none,data := .set #[] 0 (.fresh 0 0 (!w.params.followText "set-order")) } }) :
    codeAny (model prog w) A (.call (.builtin "set.__new__") ⟨[.type "set",a],[]⟩) (wants Q₁ E) s:=by
  refine codeAny_of_tree ?_
  show wpAny _ A.in1 (do checkBuiltinCall "set.__new__" ⟨[.type "set",a],[]⟩; again (.builtin "set.__new__" ⟨[.type "set",a],[]⟩)) _ _ s
  refine wpAny_bind (wpAny_of_eq (F.newCall_set_1 a) (wpAny_pure ⟨plainId_quiet F.plain_set_new _,codeAny_builtin F.entry_set_new ?_⟩))
  rw [Around.under_plainId F.plain_set_new _]
  unfold Builtin.«set.__new__» Builtin.Frozenset.newClass
  have hsub:=sub_set_self
  obtain ⟨hp,g,d,tk,os⟩:=s
  dsimp only
  wp_walk
  refine wpAny_askSetting (wpAny_pure ?_)
  dsimp only
  simp only [newObj]
  refine wpAny_bind (wpAny_alloc (wpAny_pure ?_))
  exact wpAny_pure h
theorem fresh_tab (led:Bool):SetTable.fresh 0 0 led=tabOf 0 led:=by cases led <;> decide +kernel
set_option tactic.hygienic true in
set_option maxHeartbeats 3200000 in
theorem call_set {l:Addr} {items:Array Value} {ns:List Nat} {Q:Value→Shared→Prop}
    (hh:A.handled=none) (hl:s.heap.IsList l items) (hi:IntsAre items.toList (ns.map Int.ofNat)) (h6:∀ k∈ns,k<6)
    (h:∀ (h':Heap) (tk:Nat),SetIs h' s.heap.objs.size (bitsOf ns) (!w.params.followText "set-order")→
      (∀ b o,b<s.heap.objs.size→s.heap.get? b=some o→h'.get? b=some o)→Q (.ref s.heap.objs.size) { s with heap:=h',toks:=tk }) :
    wpAny (model prog w) A (call (.type "set") [.ref l]) Q E s:=by
  obtain ⟨c,tl,hmro⟩:=F.called_set.mro
  have hmade:=F.called_set.made
  have hsub:=F.called_set.sub
  have hlen:ns.length=items.size:=by
    have:=IntsAre.length hi
    simpa using this.symm
  refine wpAny_call (codeAny_of_tree ?_)
  show wpAny _ _ (callAny (.type "set") _) _ _ _
  refine wpAny_pure ⟨Code.quiet_builtin _ (by decide +kernel),codeAny_builtin F.entry_type_call ?_⟩
  rw [Around.under_plain (weight_type_call_type "set" [.ref l] []) rfl]
  have h1:=F.called_set.notType
  have h2:=F.called_set.canCreate
  have hct:=F.typeCall_set_1 (.ref l)
  repeat (any_goals (first | assumption | wp_step))
  generalize hled:(!w.params.followText "set-order")=led at h
  refine codeAny_mono (set_new_1 (.ref l) (E:=E) (Q₁:=fun obj s₁=>obj = .ref s.heap.objs.size∧s₁={ s with heap:=s.heap.push { cls := .type "set",dict:=none,data := .set #[] 0 (.fresh 0 0 led) } }) ⟨rfl,by rw [hled]⟩) fun r s₁ hr=>?_
  cases r with
  | error e=>exact hr
  | ok fl =>
    cases fl with
    | ret obj =>
      obtain ⟨rfl,rfl⟩:=hr
      have hS:(s.heap.push { cls := .type "set",dict:=none,data := .set #[] 0 (.fresh 0 0 led) }).get? s.heap.objs.size=some { cls := .type "set",dict:=none,data := .set #[] 0 (.fresh 0 0 led) }:=Heap.get?_push_size _ rfl
      have hT:Shared.TypeIs { s with heap:=s.heap.push { cls := .type "set",dict:=none,data := .set #[] 0 (.fresh 0 0 led) } } (.ref s.heap.objs.size) "set" := ⟨_,hS,rfl⟩
      have hli:=F.called_set.init.lookup
      have hbi:=F.called_set.init.bind (.ref s.heap.objs.size)
      repeat (any_goals (first | assumption | wp_step))
      refine codeAny_mono (codeAny_call_builtin (R:=wants (fun r s₂=>r = .none∧∃ h' tk,s₂={ s with heap:=h',toks:=tk }∧
          SetIs h' s.heap.objs.size (bitsOf ns) led∧
          (∀ b o,b<s.heap.objs.size→s.heap.get? b=some o→h'.get? b=some o)) E) F.called_set.init.plain F.entry_set_init (check_set_init_1 hT ?_)) fun r₂ s₂ hr₂=>?_
      · obtain ⟨ol,hol,hcl,nl,hdl⟩:=hl
        obtain ⟨ocls,odict,odata,oslots⟩:=ol
        simp only at hcl hdl
        subst hcl; subst hdl
        have hol':(s.heap.push { cls := .type "set",dict:=none,data := .set #[] 0 (.fresh 0 0 led) }).get? l=some { cls := .type "list",dict:=odict,data := .seq items nl,slots:=oslots }:=Heap.get?_push_of_some _ hol
        have hsls:=F.sub_list_set
        have hslf:=F.sub_list_frozenset
        have hne:(Value.type "list" == Value.type "dict")=false:=by decide
        have hl1:(s.heap.push { cls := .type "set",dict:=none,data := .set #[] 0 (.fresh 0 0 led) }).IsList l items:=⟨_,hol',rfl,nl,rfl⟩
        unfold Builtin.«set.__init__» noKeywords Builtin.Frozenset.updateFrom
        generalize hPI:pyIter=PI
        wp_walk
        subst hPI
        refine wpAny_pyIter_list hl1 ?_
        refine wpAny_bind (wpAny_runValue ?_)
        have hlS:l<s.heap.objs.size:=Heap.lt_size hol
        have hh3:A.in1.in1.in1.handled=none:=by simp [hh]
        have hneI:l≠(s.heap.push { cls := .type "set",dict:=none,data := .set #[] 0 (.fresh 0 0 led) }).objs.size:=by
          rw [Heap.size_push]; exact Nat.ne_of_lt (Nat.lt_succ_of_lt hlS)
        have hSf:s.heap.objs.size ∉ [(s.heap.push { cls := .type "set",dict:=none,data := .set #[] 0 (.fresh 0 0 led) }).objs.size,l]:=by
          rw [Heap.size_push]; simp only [List.mem_cons,List.not_mem_nil,or_false,not_or]
          exact ⟨Nat.ne_of_lt (Nat.lt_succ_self _),Nat.ne_of_gt hlS⟩
        have hval:∀ (i:Nat) (v:Value),items[i]?=some v→∃ t,v = .int (Int.ofNat (ns.getD i 0)) t:=fun i v hv=>by
          obtain ⟨t,e⟩:=IntsAre.int_at hi i v (by rw [Array.getElem?_toList]; exact hv)
          have hlt:=(Array.getElem?_eq_some_iff.mp hv).1
          refine ⟨t,?_⟩
          rw [e]
          congr 1
          rw [List.getD_eq_getElem?_getD,List.getD_eq_getElem?_getD,List.getElem?_map,List.getElem?_eq_getElem (by omega)]
          rfl
        refine upd_loop ((Walks.list hh3 _ l hneI items).toS) s.heap.objs.size
          hSf led ns hlen h6 hval (items.size - 0) 0 _ (by omega) (Nat.zero_le _)
          ⟨⟨_,Heap.get?_push_size _ rfl,rfl,rfl⟩,(hl1.push _)⟩ ?hS0 ?hR
        case hS0=>
          have hget:((s.heap.push { cls := .type "set",dict:=none,data := .set #[] 0 (.fresh 0 0 led) }).push { cls := .type "list_iterator",data := .fields #[.ref l,.int 0 0] }).get? s.heap.objs.size
              = some { cls := .type "set",dict:=none,data := .set #[] 0 (.fresh 0 0 led) }:=Heap.get?_push_of_some _ hS
          rw [fresh_tab] at hget
          exact ⟨#[],0,hget,by rw [List.take_zero]; decide,fun e he=>by simp at he⟩
        case hR=>
          intro s' hm hS'
          obtain ⟨h',g',d',tk',os'⟩:=s'
          have eg:g'=s.gens:=hm.gens
          have ed:d'=s.drawn:=hm.drawn
          have eo:os'=s.os:=hm.os
          subst eg; subst ed; subst eo
          show wpAny _ _ _ _ _ _
          refine wpAny_pure ?_
          show wpAny _ _ (ret Value.none) _ _ _
          refine wpAny_pure ⟨rfl,h',tk',rfl,hS',fun b o hb e=>?_⟩
          have hb1:b≠s.heap.objs.size:=Nat.ne_of_lt hb
          have hb2:b≠(s.heap.push { cls := .type "set",dict:=none,data := .set #[] 0 (.fresh 0 0 led) }).objs.size:=by
            rw [Heap.size_push]; exact Nat.ne_of_lt (Nat.lt_succ_of_lt hb)
          exact hm.heap b o (by simp only [List.mem_cons,List.not_mem_nil,or_false,not_or]; exact ⟨hb1,hb2⟩) (Heap.get?_push_of_some _ (Heap.get?_push_of_some _ e))
      · cases r₂ with
        | error e=>exact hr₂
        | ok fl₂=>
          cases fl₂ with
          | ret r=>
            obtain ⟨rfl,h',tk,rfl,hS',hk'⟩:=hr₂
            repeat (any_goals (first | assumption | wp_step))
            exact h _ _ hS' hk'
          | _=>exact hr₂.elim
    | _=>exact hr.elim
end
theorem asc_unique {l m:List Int} (p:l.Perm m) (h1:l.Pairwise (·≤·)) (h2:m.Pairwise (·≤·)):l=m:=
  List.Perm.eq_of_pairwise (fun a b _ _ h h'=>Int.le_antisymm h h') h1 h2 p
theorem keys_asc (f:Nat):((keysOf f).map Int.ofNat).Pairwise (·≤·):=by
  unfold keysOf
  rw [List.pairwise_map]
  exact ((List.pairwise_lt_range).filter _).imp fun h=>by simp only [Int.ofNat_eq_natCast]; omega
theorem ints_of_perm:∀ {l m:List (Int×Value)},l.Perm m→(∀ e∈m,∃ t,e.2 = .int e.1 t)→IntsAre (l.map (·.2)) (l.map (·.1))
  | l,m,p,h=>by
    have h':∀ e∈l,∃ t,e.2 = .int e.1 t:=fun e he=>h e (p.mem_iff.mp he)
    clear h p
    induction l with
    | nil=>exact .nil
    | cons e r ih=>
      obtain ⟨t,et⟩:=h' e List.mem_cons_self
      rw [List.map_cons,List.map_cons,et]
      exact .cons _ t (ih fun x hx=>h' x (List.mem_cons_of_mem _ hx))
section
variable {prog:Program} {w:World} {A:Around} {E:Value→Shared→Prop} {s:Shared}
theorem sorted_set {a:Addr} {f:Nat} {Q:Value→Shared→Prop} (hf:f<64) (hS:SetIs s.heap a f (!w.params.followText "set-order")) (hh:A.handled=none)
    (hQ:∀ D h' tk out,h'.IsList D out→s.heap.get? D=none→IntsAre out.toList ((keysOf f).map Int.ofNat)→(∀ b o,s.heap.get? b=some o→h'.get? b=some o)→Q (.ref D) { s with heap:=h',toks:=tk }) :
    wpAny (model prog w) A (call (.builtin "sorted") [.ref a]) Q E s:=by
  obtain ⟨es,ep,ho,ok⟩:=hS
  have hsz:=ok.size
  have h6:=keys_le f
  refine Calls.call_function_entry kind_sorted plain_sorted entry_sorted (args_sorted1 _) ?_
  unfold Builtin.«sorted»
  refine wpAny_bind (m:=checkCount "sorted" 1 1 _) (wpAny_pure ?_)
  refine wpAny_bind (kdu_collect (A:=A.in1) (src_set hf es ep) hh ⟨ho,ok⟩ (by rw [sizeLine_eq]; omega) fun h' tk acc hk hacc=>?_)
  have hl:acc.toList.length=es.size:=by rw [Array.length_toList]; exact hacc.1
  refine wpAny_bind (wpAny_newList ?_ (by rw [hl,sizeLine_eq]; omega))
  have hv:acc.toList=(ordOf w a ep es).toList.map (·.2):=by
    apply List.ext_getElem?
    intro i
    rcases Nat.lt_or_ge i es.size with hi | hi
    · have hi':i<acc.size:=by rw [hacc.1]; exact hi
      have e1:acc[i]?=some acc[i]:=Array.getElem?_eq_getElem hi'
      obtain ⟨e,he,ev⟩:=hacc.2 i _ e1
      rw [Array.getElem?_toList,e1,List.getElem?_map,Array.getElem?_toList,he,ev]; rfl
    · rw [List.getElem?_eq_none (by rw [hl]; exact hi),List.getElem?_eq_none (by rw [List.length_map,Array.length_toList,ord_size]; exact hi)]
  have hI:=ints_of_perm (ord_perm w a ep es) ok.2
  rw [← hv] at hI
  have hoL:(h'.push (seqObj "list" acc.toList.toArray 0)).get? h'.objs.size=some (seqObj "list" acc.toList.toArray 0):=Heap.get?_push_size _ rfl
  refine wpAny_bind (wpAny_holding (wpAny_call_entry slot_list_sort ⟨_,hoL,rfl⟩ entry_list_sort (list_sort_tree hoL hI (by rw [hl]; omega) fun out ns' a1 a2 a3=>⟨_,rfl,?_⟩) (args_list_sort _)))
  have hD:s.heap.get? h'.objs.size=none:=by
    cases e:s.heap.get? h'.objs.size with
    | none=>rfl
    | some o=>exact absurd (Heap.lt_size (hk _ _ e)) (Nat.lt_irrefl _)
  have hns:ns'=(keysOf f).map Int.ofNat:=by
    refine asc_unique (a2.trans ?_) a3 (keys_asc f)
    rw [← ok.1]
    exact (ord_perm w a ep es).map _
  subst hns
  refine wpAny_pure ⟨_,rfl,hQ h'.objs.size _ tk out ?_ hD a1 fun b o e=>?_⟩
  · obtain ⟨e,he⟩:=sortedHeap_at (vs:=acc.toList) (out:=out) hoL
    exact ⟨_,he,rfl,_,rfl⟩
  · have hb:b<h'.objs.size:=Heap.lt_size (hk b o e)
    have:=sortedHeap_old (h:=h'.push (seqObj "list" acc.toList.toArray 0)) (a:=h'.objs.size) (vs:=acc.toList) (out:=out) (Nat.ne_of_lt hb) (by rw [Heap.size_push]; exact Nat.lt_succ_of_lt hb)
    exact this.trans (Heap.get?_push_of_some _ (hk b o e))
end
section
variable {prog:Program} {w:World} {A:Around} {E:Value→Shared→Prop} {s:Shared} {R:Result→Shared→Prop}
theorem cmp_Gt {a b:Int} {t u:Tok} {Q:Value→Shared→Prop} (h:Q (.bool (decide (a > b))) s):wpAny (model prog w) A (richCompare .Gt (.int a t) (.int b u)) Q E s:=
  CmpOf.ints_gt (P:=fun i v=>v=if i=0 then .int a t else .int b u) (fun i=>if i=0 then a else b) (fun i v e=>by by_cases q:i=0 <;> simp_all) 0 1 _ _ s Q E rfl rfl h
theorem cmp_Lt {a b:Int} {t u:Tok} {Q:Value→Shared→Prop} (h:Q (.bool (decide (a<b))) s):wpAny (model prog w) A (richCompare .Lt (.int a t) (.int b u)) Q E s:=
  CmpOf.ints_lt (P:=fun i v=>v=if i=0 then .int a t else .int b u) (fun i=>if i=0 then a else b) (fun i v e=>by by_cases q:i=0 <;> simp_all) 0 1 _ _ s Q E rfl rfl h
noncomputable def maxStep (b x:Int):Int:=if x > b then x else b
theorem max_loop (hh:A.handled=none) {l I S:Addr} (hlI:l≠I) (hSI:S≠I) (hSl:S≠l) {vs:List Value} {ns:List Int} (hI:IntsAre vs ns) (kw:List (Str×Value)) :
    ∀ (k j:Nat) (s:Shared) (b:Int) (t:Tok) (c:Nat),ns.length - j=k→j≤ns.length→s.heap.IsListIter I l j→s.heap.IsList l vs.toArray→
      s.heap.get? S=some { cls := .type "list",dict:=none,data := .seq #[.int b t,.int b t] c,slots:=#[] }→
      (∀ t' h' tk,(∀ x o,x≠S→x≠I→s.heap.get? x=some o→h'.get? x=some o)→R (.ok (.ret (.int ((ns.drop j).foldl maxStep b) t'))) { s with heap:=h',toks:=tk })→
      codeAny (model prog w) A (.builtin "max.loop" ⟨[.ref I,.none,.ref S],kw⟩) R s:=by
  have hname:(toString "max" ++ toString ".loop" : String) = "max.loop" := by decide
  have hlen:vs.toArray.size=ns.length:=by simp [IntsAre.length hI]
  have W:Walks prog w A.in1 I [I,l] [I] vs.toArray.size (fun i v=>vs.toArray[i]?=some v) (fun i h=>h.IsListIter I l i∧h.IsList l vs.toArray):=Walks.list (A:=A.in1) hh I l hlI vs.toArray
  intro k
  induction k with
  | zero=>
    intro j s b t c hk hj hit hl hS hR
    have hin:j=ns.length:=lp0 hk hj
    subst hin
    rw [List.drop_length] at hR
    refine codeAny_builtin F.entry_max_loop ?_
    rw [Around.under_plainId F.plain_max_loop _]
    show wpAny _ A.in1 (seqItems? (.ref S) >>= _) _ _ s
    refine wpAny_bind (wpAny_seqItems hS rfl ?_)
    show wpAny _ A.in1 (tryCatch (pyNext (.ref I)) _ >>= _) _ _ s
    refine wpAny_bind (wpAny_tryCatch (W.done s _ _ (hlen▸⟨hit,hl⟩) fun h' tk hk'=>?_))
    have hS':=hk' S _ (by simpa using hSI) hS
    show wpAny _ A.in1 (updateSeq S (fun _=>#[]) >>= _) _ _ _
    refine wpAny_bind ?_
    refine wpAny_updateSeq hS' rfl (wpAny_bind (wpAny_letGo (wpAny_pure ?_)))
    exact hR t _ tk fun x o h1 h2 e=>(Heap.get?_update_other _ _ (Ne.symm h1)).trans (hk' x o (by simpa using h2) e)
  | succ k ih=>
    intro j s b t c hk hj hit hl hS hR
    have hlt:j<ns.length:=lp1 hk
    refine codeAny_builtin F.entry_max_loop ?_
    rw [Around.under_plainId F.plain_max_loop _]
    show wpAny _ A.in1 (seqItems? (.ref S) >>= _) _ _ s
    refine wpAny_bind (wpAny_seqItems hS rfl ?_)
    show wpAny _ A.in1 (tryCatch (pyNext (.ref I)) _ >>= _) _ _ s
    refine wpAny_bind (wpAny_tryCatch (W.item j s _ _ (hlen▸hlt) ⟨hit,hl⟩ fun v h' tk hP hst' hk'=>?_))
    obtain ⟨u,rfl⟩:=IntsAre.int_at hI j v (by simpa using hP)
    have hS':=hk' S _ (by simpa using hSI) hS
    have hd:ns.drop j=ns.getD j 0::ns.drop (j+1):=by
      rw [List.drop_eq_getElem_cons hlt,List.getD_eq_getElem?_getD,List.getElem?_eq_getElem hlt]; rfl
    rw [hd,List.foldl_cons] at hR
    generalize hx:ns.getD j 0=x at *
    show wpAny _ A.in1 (tryCatch (holding [.int x u,.int x u] (richCompare .Gt (.int x u) (.int b t) >>= _)) _ >>= _) _ _ _
    refine wpAny_bind (wpAny_tryCatch (wpAny_holding (wpAny_bind (cmp_Gt ?_))))
    refine wpAny_bind (wpAny_holding (wpAny_truthy_bool ?_))
    refine wpAny_bind (wpAny_letGo (wpAny_pure ?_))
    by_cases hb:x > b
    · rw [decide_eq_true hb]
      simp only [if_true]
      refine wpAny_bind ?_
      refine wpAny_updateSeq hS' rfl (wpAny_bind (wpAny_letGo ?_))
      rw [hname]
      have hst2:=W.frame _ h' _ hst' (fun y hy o e=>(Heap.get?_update_other h' (Obj.mapSeq fun _=>#[.int x u,.int x u]) (show S≠y from fun q=>by
        subst q
        rcases List.mem_cons.mp hy with q | q
        · exact hSI q
        · exact hSl (List.mem_singleton.mp q))).trans e)
      refine wpAny_pure ⟨plainId_quiet F.plain_max_loop _,ih (j+1) _ x u _ (lp2 hk) hlt hst2.1 hst2.2 (Heap.get?_update_self _ hS' rfl) fun t' h'' tk'' hk''=>?_⟩
      unfold maxStep at hR
      rw [if_pos hb] at hR
      exact hR t' h'' tk'' fun y o h1 h2 e=>hk'' y o h1 h2 ((Heap.get?_update_other _ _ (Ne.symm h1)).trans (hk' y o (by simpa using h2) e))
    · rw [decide_eq_false hb]
      simp only [Bool.false_eq_true,if_false]
      refine wpAny_bind (wpAny_letGo ?_)
      rw [hname]
      refine wpAny_pure ⟨plainId_quiet F.plain_max_loop _,ih (j+1) _ b t c (lp2 hk) hlt hst'.1 hst'.2 hS' fun t' h'' tk'' hk''=>?_⟩
      unfold maxStep at hR
      rw [if_neg hb] at hR
      exact hR t' h'' tk'' fun y o h1 h2 e=>hk'' y o h1 h2 (hk' y o (by simpa using h2) e)
noncomputable def maxOf:List Int→Option Int
  | []=>none
  | x::r=>some (r.foldl maxStep x)
set_option tactic.hygienic true in
theorem max_first (hh:A.handled=none) {l I S:Addr} (hlI:l≠I) (hSI:S≠I) (hSl:S≠l) {vs:List Value} {ns:List Int} (hI:IntsAre vs ns) {kw:List (Str×Value)} {s:Shared} {c:Nat} (hit:s.heap.IsListIter I l 0) (hl:s.heap.IsList l vs.toArray)
    (hS:s.heap.get? S=some { cls := .type "list",dict:=none,data := .seq #[] c,slots:=#[] })
    (hR:∀ m t' h' tk,maxOf ns=some m→(∀ x o,x≠S→x≠I→s.heap.get? x=some o→h'.get? x=some o)→R (.ok (.ret (.int m t'))) { s with heap:=h',toks:=tk })
    (hE:∀ h' tk,ns=[]→(∀ x o,x≠S→x≠I→s.heap.get? x=some o→h'.get? x=some o)→∃ n d r,kw=(n,d)::r∧R (.ok (.ret d)) { s with heap:=h',toks:=tk }) :
      codeAny (model prog w) A (.builtin "max.loop" ⟨[.ref I,.none,.ref S],kw⟩) R s:=by
  have hname:(toString "max" ++ toString ".loop" : String) = "max.loop" := by decide
  have W:Walks prog w A.in1 I [I,l] [I] vs.toArray.size (fun i v=>vs.toArray[i]?=some v) (fun i h=>h.IsListIter I l i∧h.IsList l vs.toArray):=Walks.list (A:=A.in1) hh I l hlI vs.toArray
  refine codeAny_builtin F.entry_max_loop ?_
  rw [Around.under_plainId F.plain_max_loop _]
  show wpAny _ A.in1 (seqItems? (.ref S) >>= _) _ _ s
  refine wpAny_bind (wpAny_seqItems hS rfl ?_)
  show wpAny _ A.in1 (tryCatch (pyNext (.ref I)) _ >>= _) _ _ s
  cases hI with
  | nil=>
    refine wpAny_bind (wpAny_tryCatch (W.done s _ _ ⟨hit,hl⟩ fun h' tk hk'=>?_))
    obtain ⟨n,d,r,rfl,hr⟩:=hE h' tk rfl fun x o _ h2 e=>hk' x o (by simpa using h2) e
    refine wpAny_bind (wpAny_rule ?_)
    exact wpAny_pure hr
  | cons x u hr=>
    rename_i vs ns
    refine wpAny_bind (wpAny_tryCatch (W.item 0 s _ _ (by simp) ⟨hit,hl⟩ fun v h' tk hP hst' hk'=>?_))
    have hv:v = .int x u:=by simpa using hP.symm
    subst hv
    have hS':=hk' S _ (by simpa using hSI) hS
    show wpAny _ A.in1 (updateSeq S (fun _=>#[.int x u,.int x u]) >>= _) _ _ _
    refine wpAny_bind ?_
    refine wpAny_updateSeq hS' rfl ?_
    rw [hname]
    have hst2:=W.frame _ h' _ hst' (fun y hy o e=>(Heap.get?_update_other h' (Obj.mapSeq fun _=>#[.int x u,.int x u]) (show S≠y from fun q=>by
      subst q
      rcases List.mem_cons.mp hy with q | q
      · exact hSI q
      · exact hSl (List.mem_singleton.mp q))).trans e)
    refine wpAny_pure ⟨plainId_quiet F.plain_max_loop _,max_loop hh hlI hSI hSl (.cons x u hr) kw _ 1 _ x u _ rfl (by simp) hst2.1 hst2.2 (Heap.get?_update_self _ hS' rfl) fun t' h'' tk'' hk''=>?_⟩
    exact hR _ t' h'' tk'' rfl fun y o h1 h2 e=>hk'' y o h1 h2 ((Heap.get?_update_other _ _ (Ne.symm h1)).trans (hk' y o (by simpa using h2) e))
theorem args_max_d (x y:Value):argsOk "max" ⟨[x],[(Str.ofString "default",y)]⟩:=by unfold argsOk; kernel_rfl
theorem call_max_d {l:Addr} {vs:List Value} {ns:List Int} {y:Value} {Q:Value→Shared→Prop} (hh:A.handled=none) (hl:s.heap.IsList l vs.toArray) (hI:IntsAre vs ns)
    (hQ:∀ v h' tk,(match maxOf ns with | none=>v=y | some m=>∃ t,v = .int m t)→(∀ x o,s.heap.get? x=some o→h'.get? x=some o)→Q v { s with heap:=h',toks:=tk }) :
    wpAny (model prog w) A (call (.builtin "max") [.ref l] [(Str.ofString "default",y)]) Q E s:=by
  have hname:(toString "max" ++ toString ".loop" : String) = "max.loop" := by decide
  obtain ⟨ol,hol,_⟩:=id hl
  have hll:l<s.heap.objs.size:=Heap.lt_size hol
  refine kmk_tree PySem.F.kind_max PySem.F.plain_max PySem.F.entry_max (args_max_d _ _) ?_
  show wpAny _ A.in1 (Builtin.Builtins.bindParams "max" ["key", "default"] 0 ⟨[],[(Str.ofString "default",y)]⟩ >>= _) _ _ s
  refine wpAny_bind (wpAny_of_eq (show Builtin.Builtins.bindParams "max" ["key", "default"] 0 ⟨[],[(Str.ofString "default",y)]⟩=pure [none,some y] from rfl) ?_)
  refine wpAny_bind (wpAny_pure ?_)
  refine wpAny_bind (wpAny_pyIter_list hl ?_)
  refine wpAny_bind (wpAny_newList ?_ (Nat.zero_le _))
  rw [hname]
  have hS:(s.heap.push { cls := .type "list_iterator",data := .fields #[.ref l,.int 0 0] }).objs.size=s.heap.objs.size+1:=size_push' ..
  refine wpAny_pure ⟨plainId_quiet PySem.F.plain_max_loop _,?_⟩
  have keep:∀ (h':Heap),(∀ x o,x≠(s.heap.push { cls := .type "list_iterator",data := .fields #[.ref l,.int 0 0] }).objs.size→x≠s.heap.objs.size→((s.heap.push { cls := .type "list_iterator",data := .fields #[.ref l,.int 0 0] }).push (seqObj "list" #[] 0)).get? x=some o→h'.get? x=some o)→
      ∀ x o,s.heap.get? x=some o→h'.get? x=some o:=fun h' hk x o e=>hk x o (by rw [hS]; exact Nat.ne_of_lt (Nat.lt_succ_of_lt (Heap.lt_size e))) (Nat.ne_of_lt (Heap.lt_size e)) (Heap.get?_push_of_some _ (Heap.get?_push_of_some _ e))
  have hSI:(s.heap.push { cls := .type "list_iterator",data := .fields #[.ref l,.int 0 0] }).objs.size≠s.heap.objs.size:=by rw [hS]; exact Nat.ne_of_gt (Nat.lt_succ_self _)
  have hSl:(s.heap.push { cls := .type "list_iterator",data := .fields #[.ref l,.int 0 0] }).objs.size≠l:=by rw [hS]; exact Nat.ne_of_gt (Nat.lt_succ_of_lt hll)
  refine max_first hh (Nat.ne_of_lt hll) hSI hSl hI
    ⟨_,Heap.get?_push_of_some _ (Heap.get?_push_size _ rfl),rfl,rfl⟩ ((hl.push _).push _) (Heap.get?_push_size _ rfl) (fun m t' h' tk hm hk=>?_) (fun h' tk hn hk=>⟨_,y,_,rfl,?_⟩)
  · exact hQ _ h' tk (by rw [hm]; exact ⟨t',rfl⟩) (keep h' hk)
  · subst hn
    exact hQ y h' tk rfl (keep h' hk)
noncomputable def minStep (b x:Int):Int:=if x<b then x else b
theorem min_loop (hh:A.handled=none) {l I S:Addr} (hlI:l≠I) (hSI:S≠I) (hSl:S≠l) {vs:List Value} {ns:List Int} (hI:IntsAre vs ns) (kw:List (Str×Value)) :
    ∀ (k j:Nat) (s:Shared) (b:Int) (t:Tok) (c:Nat),ns.length - j=k→j≤ns.length→s.heap.IsListIter I l j→s.heap.IsList l vs.toArray→
      s.heap.get? S=some { cls := .type "list",dict:=none,data := .seq #[.int b t,.int b t] c,slots:=#[] }→
      (∀ t' h' tk,(∀ x o,x≠S→x≠I→s.heap.get? x=some o→h'.get? x=some o)→R (.ok (.ret (.int ((ns.drop j).foldl minStep b) t'))) { s with heap:=h',toks:=tk })→
      codeAny (model prog w) A (.builtin "min.loop" ⟨[.ref I,.none,.ref S],kw⟩) R s:=by
  have hname:(toString "min" ++ toString ".loop" : String) = "min.loop" := by decide
  have hlen:vs.toArray.size=ns.length:=by simp [IntsAre.length hI]
  have W:Walks prog w A.in1 I [I,l] [I] vs.toArray.size (fun i v=>vs.toArray[i]?=some v) (fun i h=>h.IsListIter I l i∧h.IsList l vs.toArray):=Walks.list (A:=A.in1) hh I l hlI vs.toArray
  intro k
  induction k with
  | zero=>
    intro j s b t c hk hj hit hl hS hR
    have hin:j=ns.length:=lp0 hk hj
    subst hin
    rw [List.drop_length] at hR
    refine codeAny_builtin F.entry_min_loop ?_
    rw [Around.under_plainId F.plain_min_loop _]
    show wpAny _ A.in1 (seqItems? (.ref S) >>= _) _ _ s
    refine wpAny_bind (wpAny_seqItems hS rfl ?_)
    show wpAny _ A.in1 (tryCatch (pyNext (.ref I)) _ >>= _) _ _ s
    refine wpAny_bind (wpAny_tryCatch (W.done s _ _ (hlen▸⟨hit,hl⟩) fun h' tk hk'=>?_))
    have hS':=hk' S _ (by simpa using hSI) hS
    show wpAny _ A.in1 (updateSeq S (fun _=>#[]) >>= _) _ _ _
    refine wpAny_bind ?_
    refine wpAny_updateSeq hS' rfl (wpAny_bind (wpAny_letGo (wpAny_pure ?_)))
    exact hR t _ tk fun x o h1 h2 e=>(Heap.get?_update_other _ _ (Ne.symm h1)).trans (hk' x o (by simpa using h2) e)
  | succ k ih=>
    intro j s b t c hk hj hit hl hS hR
    have hlt:j<ns.length:=lp1 hk
    refine codeAny_builtin F.entry_min_loop ?_
    rw [Around.under_plainId F.plain_min_loop _]
    show wpAny _ A.in1 (seqItems? (.ref S) >>= _) _ _ s
    refine wpAny_bind (wpAny_seqItems hS rfl ?_)
    show wpAny _ A.in1 (tryCatch (pyNext (.ref I)) _ >>= _) _ _ s
    refine wpAny_bind (wpAny_tryCatch (W.item j s _ _ (hlen▸hlt) ⟨hit,hl⟩ fun v h' tk hP hst' hk'=>?_))
    obtain ⟨u,rfl⟩:=IntsAre.int_at hI j v (by simpa using hP)
    have hS':=hk' S _ (by simpa using hSI) hS
    have hd:ns.drop j=ns.getD j 0::ns.drop (j+1):=by
      rw [List.drop_eq_getElem_cons hlt,List.getD_eq_getElem?_getD,List.getElem?_eq_getElem hlt]; rfl
    rw [hd,List.foldl_cons] at hR
    generalize hx:ns.getD j 0=x at *
    show wpAny _ A.in1 (tryCatch (holding [.int x u,.int x u] (richCompare .Lt (.int x u) (.int b t) >>= _)) _ >>= _) _ _ _
    refine wpAny_bind (wpAny_tryCatch (wpAny_holding (wpAny_bind (cmp_Lt ?_))))
    refine wpAny_bind (wpAny_holding (wpAny_truthy_bool ?_))
    refine wpAny_bind (wpAny_letGo (wpAny_pure ?_))
    by_cases hb:x<b
    · rw [decide_eq_true hb]
      simp only [if_true]
      refine wpAny_bind ?_
      refine wpAny_updateSeq hS' rfl (wpAny_bind (wpAny_letGo ?_))
      rw [hname]
      have hst2:=W.frame _ h' _ hst' (fun y hy o e=>(Heap.get?_update_other h' (Obj.mapSeq fun _=>#[.int x u,.int x u]) (show S≠y from fun q=>by
        subst q
        rcases List.mem_cons.mp hy with q | q
        · exact hSI q
        · exact hSl (List.mem_singleton.mp q))).trans e)
      refine wpAny_pure ⟨plainId_quiet F.plain_min_loop _,ih (j+1) _ x u _ (lp2 hk) hlt hst2.1 hst2.2 (Heap.get?_update_self _ hS' rfl) fun t' h'' tk'' hk''=>?_⟩
      unfold minStep at hR
      rw [if_pos hb] at hR
      exact hR t' h'' tk'' fun y o h1 h2 e=>hk'' y o h1 h2 ((Heap.get?_update_other _ _ (Ne.symm h1)).trans (hk' y o (by simpa using h2) e))
    · rw [decide_eq_false hb]
      simp only [Bool.false_eq_true,if_false]
      refine wpAny_bind (wpAny_letGo ?_)
      rw [hname]
      refine wpAny_pure ⟨plainId_quiet F.plain_min_loop _,ih (j+1) _ b t c (lp2 hk) hlt hst'.1 hst'.2 hS' fun t' h'' tk'' hk''=>?_⟩
      unfold minStep at hR
      rw [if_neg hb] at hR
      exact hR t' h'' tk'' fun y o h1 h2 e=>hk'' y o h1 h2 (hk' y o (by simpa using h2) e)
noncomputable def minOf:List Int→Option Int
  | []=>none
  | x::r=>some (r.foldl minStep x)
set_option tactic.hygienic true in
theorem min_first (hh:A.handled=none) {l I S:Addr} (hlI:l≠I) (hSI:S≠I) (hSl:S≠l) {vs:List Value} {ns:List Int} (hI:IntsAre vs ns) {kw:List (Str×Value)} {s:Shared} {c:Nat} (hit:s.heap.IsListIter I l 0) (hl:s.heap.IsList l vs.toArray)
    (hS:s.heap.get? S=some { cls := .type "list",dict:=none,data := .seq #[] c,slots:=#[] })
    (hR:∀ m t' h' tk,minOf ns=some m→(∀ x o,x≠S→x≠I→s.heap.get? x=some o→h'.get? x=some o)→R (.ok (.ret (.int m t'))) { s with heap:=h',toks:=tk })
    (hE:∀ h' tk,ns=[]→(∀ x o,x≠S→x≠I→s.heap.get? x=some o→h'.get? x=some o)→∃ n d r,kw=(n,d)::r∧R (.ok (.ret d)) { s with heap:=h',toks:=tk }) :
      codeAny (model prog w) A (.builtin "min.loop" ⟨[.ref I,.none,.ref S],kw⟩) R s:=by
  have hname:(toString "min" ++ toString ".loop" : String) = "min.loop" := by decide
  have W:Walks prog w A.in1 I [I,l] [I] vs.toArray.size (fun i v=>vs.toArray[i]?=some v) (fun i h=>h.IsListIter I l i∧h.IsList l vs.toArray):=Walks.list (A:=A.in1) hh I l hlI vs.toArray
  refine codeAny_builtin F.entry_min_loop ?_
  rw [Around.under_plainId F.plain_min_loop _]
  show wpAny _ A.in1 (seqItems? (.ref S) >>= _) _ _ s
  refine wpAny_bind (wpAny_seqItems hS rfl ?_)
  show wpAny _ A.in1 (tryCatch (pyNext (.ref I)) _ >>= _) _ _ s
  cases hI with
  | nil=>
    refine wpAny_bind (wpAny_tryCatch (W.done s _ _ ⟨hit,hl⟩ fun h' tk hk'=>?_))
    obtain ⟨n,d,r,rfl,hr⟩:=hE h' tk rfl fun x o _ h2 e=>hk' x o (by simpa using h2) e
    refine wpAny_bind (wpAny_rule ?_)
    exact wpAny_pure hr
  | cons x u hr=>
    rename_i vs ns
    refine wpAny_bind (wpAny_tryCatch (W.item 0 s _ _ (by simp) ⟨hit,hl⟩ fun v h' tk hP hst' hk'=>?_))
    have hv:v = .int x u:=by simpa using hP.symm
    subst hv
    have hS':=hk' S _ (by simpa using hSI) hS
    show wpAny _ A.in1 (updateSeq S (fun _=>#[.int x u,.int x u]) >>= _) _ _ _
    refine wpAny_bind ?_
    refine wpAny_updateSeq hS' rfl ?_
    rw [hname]
    have hst2:=W.frame _ h' _ hst' (fun y hy o e=>(Heap.get?_update_other h' (Obj.mapSeq fun _=>#[.int x u,.int x u]) (show S≠y from fun q=>by
      subst q
      rcases List.mem_cons.mp hy with q | q
      · exact hSI q
      · exact hSl (List.mem_singleton.mp q))).trans e)
    refine wpAny_pure ⟨plainId_quiet F.plain_min_loop _,min_loop hh hlI hSI hSl (.cons x u hr) kw _ 1 _ x u _ rfl (by simp) hst2.1 hst2.2 (Heap.get?_update_self _ hS' rfl) fun t' h'' tk'' hk''=>?_⟩
    exact hR _ t' h'' tk'' rfl fun y o h1 h2 e=>hk'' y o h1 h2 ((Heap.get?_update_other _ _ (Ne.symm h1)).trans (hk' y o (by simpa using h2) e))
theorem args_min_d (x y:Value):argsOk "min" ⟨[x],[(Str.ofString "default",y)]⟩:=by unfold argsOk; kernel_rfl
theorem call_min_d {l:Addr} {vs:List Value} {ns:List Int} {y:Value} {Q:Value→Shared→Prop} (hh:A.handled=none) (hl:s.heap.IsList l vs.toArray) (hI:IntsAre vs ns)
    (hQ:∀ v h' tk,(match minOf ns with | none=>v=y | some m=>∃ t,v = .int m t)→(∀ x o,s.heap.get? x=some o→h'.get? x=some o)→Q v { s with heap:=h',toks:=tk }) :
    wpAny (model prog w) A (call (.builtin "min") [.ref l] [(Str.ofString "default",y)]) Q E s:=by
  have hname:(toString "min" ++ toString ".loop" : String) = "min.loop" := by decide
  obtain ⟨ol,hol,_⟩:=id hl
  have hll:l<s.heap.objs.size:=Heap.lt_size hol
  refine kmk_tree PySem.F.kind_min PySem.F.plain_min PySem.F.entry_min (args_min_d _ _) ?_
  show wpAny _ A.in1 (Builtin.Builtins.bindParams "min" ["key", "default"] 0 ⟨[],[(Str.ofString "default",y)]⟩ >>= _) _ _ s
  refine wpAny_bind (wpAny_of_eq (show Builtin.Builtins.bindParams "min" ["key", "default"] 0 ⟨[],[(Str.ofString "default",y)]⟩=pure [none,some y] from rfl) ?_)
  refine wpAny_bind (wpAny_pure ?_)
  refine wpAny_bind (wpAny_pyIter_list hl ?_)
  refine wpAny_bind (wpAny_newList ?_ (Nat.zero_le _))
  rw [hname]
  have hS:(s.heap.push { cls := .type "list_iterator",data := .fields #[.ref l,.int 0 0] }).objs.size=s.heap.objs.size+1:=size_push' ..
  refine wpAny_pure ⟨plainId_quiet PySem.F.plain_min_loop _,?_⟩
  have keep:∀ (h':Heap),(∀ x o,x≠(s.heap.push { cls := .type "list_iterator",data := .fields #[.ref l,.int 0 0] }).objs.size→x≠s.heap.objs.size→((s.heap.push { cls := .type "list_iterator",data := .fields #[.ref l,.int 0 0] }).push (seqObj "list" #[] 0)).get? x=some o→h'.get? x=some o)→
      ∀ x o,s.heap.get? x=some o→h'.get? x=some o:=fun h' hk x o e=>hk x o (by rw [hS]; exact Nat.ne_of_lt (Nat.lt_succ_of_lt (Heap.lt_size e))) (Nat.ne_of_lt (Heap.lt_size e)) (Heap.get?_push_of_some _ (Heap.get?_push_of_some _ e))
  have hSI:(s.heap.push { cls := .type "list_iterator",data := .fields #[.ref l,.int 0 0] }).objs.size≠s.heap.objs.size:=by rw [hS]; exact Nat.ne_of_gt (Nat.lt_succ_self _)
  have hSl:(s.heap.push { cls := .type "list_iterator",data := .fields #[.ref l,.int 0 0] }).objs.size≠l:=by rw [hS]; exact Nat.ne_of_gt (Nat.lt_succ_of_lt hll)
  refine min_first hh (Nat.ne_of_lt hll) hSI hSl hI
    ⟨_,Heap.get?_push_of_some _ (Heap.get?_push_size _ rfl),rfl,rfl⟩ ((hl.push _).push _) (Heap.get?_push_size _ rfl) (fun m t' h' tk hm hk=>?_) (fun h' tk hn hk=>⟨_,y,_,rfl,?_⟩)
  · exact hQ _ h' tk (by rw [hm]; exact ⟨t',rfl⟩) (keep h' hk)
  · subst hn
    exact hQ y h' tk rfl (keep h' hk)
end
section
variable {prog:Program} {w:World} {A:Around} {E:Value→Shared→Prop} {s:Shared}
set_option tactic.hygienic true in
set_option maxHeartbeats 3200000 in
theorem call_set_tuple {l:Addr} {items:Array Value} {ns:List Nat} {Q:Value→Shared→Prop}
    (hh:A.handled=none) (hl:s.heap.IsTuple l items) (hi:IntsAre items.toList (ns.map Int.ofNat)) (h6:∀ k∈ns,k<6)
    (h:∀ (h':Heap) (tk:Nat),SetIs h' s.heap.objs.size (bitsOf ns) (!w.params.followText "set-order")→
      (∀ b o,b<s.heap.objs.size→s.heap.get? b=some o→h'.get? b=some o)→Q (.ref s.heap.objs.size) { s with heap:=h',toks:=tk }) :
    wpAny (model prog w) A (call (.type "set") [.ref l]) Q E s:=by
  obtain ⟨c,tl,hmro⟩:=F.called_set.mro
  have hmade:=F.called_set.made
  have hsub:=F.called_set.sub
  have hlen:ns.length=items.size:=by
    have:=IntsAre.length hi
    simpa using this.symm
  refine wpAny_call (codeAny_of_tree ?_)
  show wpAny _ _ (callAny (.type "set") _) _ _ _
  refine wpAny_pure ⟨Code.quiet_builtin _ (by decide +kernel),codeAny_builtin F.entry_type_call ?_⟩
  rw [Around.under_plain (weight_type_call_type "set" [.ref l] []) rfl]
  have h1:=F.called_set.notType
  have h2:=F.called_set.canCreate
  have hct:=F.typeCall_set_1 (.ref l)
  repeat (any_goals (first | assumption | wp_step))
  generalize hled:(!w.params.followText "set-order")=led at h
  refine codeAny_mono (set_new_1 (.ref l) (E:=E) (Q₁:=fun obj s₁=>obj = .ref s.heap.objs.size∧s₁={ s with heap:=s.heap.push { cls := .type "set",dict:=none,data := .set #[] 0 (.fresh 0 0 led) } }) ⟨rfl,by rw [hled]⟩) fun r s₁ hr=>?_
  cases r with
  | error e=>exact hr
  | ok fl =>
    cases fl with
    | ret obj =>
      obtain ⟨rfl,rfl⟩:=hr
      have hS:(s.heap.push { cls := .type "set",dict:=none,data := .set #[] 0 (.fresh 0 0 led) }).get? s.heap.objs.size=some { cls := .type "set",dict:=none,data := .set #[] 0 (.fresh 0 0 led) }:=Heap.get?_push_size _ rfl
      have hT:Shared.TypeIs { s with heap:=s.heap.push { cls := .type "set",dict:=none,data := .set #[] 0 (.fresh 0 0 led) } } (.ref s.heap.objs.size) "set" := ⟨_,hS,rfl⟩
      have hli:=F.called_set.init.lookup
      have hbi:=F.called_set.init.bind (.ref s.heap.objs.size)
      repeat (any_goals (first | assumption | wp_step))
      refine codeAny_mono (codeAny_call_builtin (R:=wants (fun r s₂=>r = .none∧∃ h' tk,s₂={ s with heap:=h',toks:=tk }∧
          SetIs h' s.heap.objs.size (bitsOf ns) led∧
          (∀ b o,b<s.heap.objs.size→s.heap.get? b=some o→h'.get? b=some o)) E) F.called_set.init.plain F.entry_set_init (check_set_init_1 hT ?_)) fun r₂ s₂ hr₂=>?_
      · obtain ⟨ol,hol,hcl,nl,hdl⟩:=hl
        obtain ⟨ocls,odict,odata,oslots⟩:=ol
        simp only at hcl hdl
        subst hcl; subst hdl
        have hol':(s.heap.push { cls := .type "set",dict:=none,data := .set #[] 0 (.fresh 0 0 led) }).get? l=some { cls := .type "tuple",dict:=odict,data := .seq items nl,slots:=oslots }:=Heap.get?_push_of_some _ hol
        have hsls:=F.sub_tuple_set
        have hslf:=F.sub_tuple_frozenset
        have hne:(Value.type "tuple" == Value.type "dict")=false:=by decide
        have hl1:(s.heap.push { cls := .type "set",dict:=none,data := .set #[] 0 (.fresh 0 0 led) }).IsTuple l items:=⟨_,hol',rfl,nl,rfl⟩
        unfold Builtin.«set.__init__» noKeywords Builtin.Frozenset.updateFrom
        generalize hPI:pyIter=PI
        wp_walk
        subst hPI
        refine wpAny_pyIter_tuple hl1 ?_
        refine wpAny_bind (wpAny_runValue ?_)
        have hlS:l<s.heap.objs.size:=Heap.lt_size hol
        have hh3:A.in1.in1.in1.handled=none:=by simp [hh]
        have hneI:l≠(s.heap.push { cls := .type "set",dict:=none,data := .set #[] 0 (.fresh 0 0 led) }).objs.size:=by
          rw [Heap.size_push]; exact Nat.ne_of_lt (Nat.lt_succ_of_lt hlS)
        have hSf:s.heap.objs.size ∉ [(s.heap.push { cls := .type "set",dict:=none,data := .set #[] 0 (.fresh 0 0 led) }).objs.size,l]:=by
          rw [Heap.size_push]; simp only [List.mem_cons,List.not_mem_nil,or_false,not_or]
          exact ⟨Nat.ne_of_lt (Nat.lt_succ_self _),Nat.ne_of_gt hlS⟩
        have hval:∀ (i:Nat) (v:Value),items[i]?=some v→∃ t,v = .int (Int.ofNat (ns.getD i 0)) t:=fun i v hv=>by
          obtain ⟨t,e⟩:=IntsAre.int_at hi i v (by rw [Array.getElem?_toList]; exact hv)
          have hlt:=(Array.getElem?_eq_some_iff.mp hv).1
          refine ⟨t,?_⟩
          rw [e]
          congr 1
          rw [List.getD_eq_getElem?_getD,List.getD_eq_getElem?_getD,List.getElem?_map,List.getElem?_eq_getElem (by omega)]
          rfl
        refine upd_loop ((Walks.tuple hh3 _ l hneI items).toS) s.heap.objs.size
          hSf led ns hlen h6 hval (items.size - 0) 0 _ (by omega) (Nat.zero_le _)
          ⟨⟨_,Heap.get?_push_size _ rfl,rfl,rfl⟩,(hl1.push _)⟩ ?hS0 ?hR
        case hS0=>
          have hget:((s.heap.push { cls := .type "set",dict:=none,data := .set #[] 0 (.fresh 0 0 led) }).push { cls := .type "tuple_iterator",data := .fields #[.ref l,.int 0 0] }).get? s.heap.objs.size
              = some { cls := .type "set",dict:=none,data := .set #[] 0 (.fresh 0 0 led) }:=Heap.get?_push_of_some _ hS
          rw [fresh_tab] at hget
          exact ⟨#[],0,hget,by rw [List.take_zero]; decide,fun e he=>by simp at he⟩
        case hR=>
          intro s' hm hS'
          obtain ⟨h',g',d',tk',os'⟩:=s'
          have eg:g'=s.gens:=hm.gens
          have ed:d'=s.drawn:=hm.drawn
          have eo:os'=s.os:=hm.os
          subst eg; subst ed; subst eo
          show wpAny _ _ _ _ _ _
          refine wpAny_pure ?_
          show wpAny _ _ (ret Value.none) _ _ _
          refine wpAny_pure ⟨rfl,h',tk',rfl,hS',fun b o hb e=>?_⟩
          have hb1:b≠s.heap.objs.size:=Nat.ne_of_lt hb
          have hb2:b≠(s.heap.push { cls := .type "set",dict:=none,data := .set #[] 0 (.fresh 0 0 led) }).objs.size:=by
            rw [Heap.size_push]; exact Nat.ne_of_lt (Nat.lt_succ_of_lt hb)
          exact hm.heap b o (by simp only [List.mem_cons,List.not_mem_nil,or_false,not_or]; exact ⟨hb1,hb2⟩) (Heap.get?_push_of_some _ (Heap.get?_push_of_some _ e))
      · cases r₂ with
        | error e=>exact hr₂
        | ok fl₂=>
          cases fl₂ with
          | ret r=>
            obtain ⟨rfl,h',tk,rfl,hS',hk'⟩:=hr₂
            repeat (any_goals (first | assumption | wp_step))
            exact h _ _ hS' hk'
          | _=>exact hr₂.elim
    | _=>exact hr.elim
end
end Mine
end
section
namespace Mine
open PySem PyProof PyProof.Rows
set_option maxRecDepth 100000
noncomputable abbrev AU:=Option (Option Nat)×Nat
theorem count_eq (nrem:Nat):∃ k:AU→StateT SortSt Sem (Option Nat),(∀ c,c.1=none→(c.2==nrem)=true→k c=pure (some c.2))∧countRun' 0 nrem=(do
  let c←(forIn [1:nrem] ((none,1):AU) fun _ c=>do
    let x←ltAt' (0+c.2) (0+c.2 - 1)
    match x with
    | some less=>if less then pure (.done (none,c.2)) else pure (.yield (none,c.2+1))
    | _=>pure (.done (some none,c.2)))
  k c):=by
  refine ⟨_,?_,rfl⟩
  rintro ⟨c1,c2⟩ rfl h
  simp only at h
  simp [h]
section
variable {prog:Program} {w:World} {A:Around} {E:Value→Shared→Prop} {s:Shared} {a₀:Array Keyed}
theorem count_asc {st:SortSt} {Q:Option Nat→SortSt→Prop} (h0:IntKeys a₀) (hB:SBase a₀ st) (h1:1≤a₀.size) (hs:SortedTo (arrOf st) a₀.size) (h:Q (some a₀.size) st):wpS (model prog w) A E s (countRun' 0 a₀.size) Q st:=by
  obtain ⟨k,hk,e⟩:=count_eq a₀.size
  rw [e]
  refine wpS_bind (wpS_forRange (I:=fun x c st'=>st'=st∧c=(none,x)) (Q:=fun c st'=>wpS (model prog w) A E s (k c) Q st') (fun x c st' hx1 hx hI=>?_) (fun c st' hI=>?_) ⟨rfl,rfl⟩)
  · obtain ⟨rfl,rfl⟩:=hI
    dsimp only
    rw [Nat.zero_add]
    refine wpS_bind (wpS_ltK hB h0 hx (by omega) ?_)
    have hle:=hs (x - 1) x (by omega) hx
    rw [decide_eq_false (Int.not_lt.mpr hle)]
    exact wpS_pure ⟨rfl,rfl⟩
  · obtain ⟨rfl,rfl⟩:=hI
    rw [Nat.max_eq_right h1]
    rw [hk _ rfl (by simp)]
    exact wpS_pure h
set_option tactic.hygienic true in
theorem runs_asc {st:SortSt} {Q:Unit→SortSt→Prop} (h0:IntKeys a₀) (hB:SBase a₀ st) (h2:2≤a₀.size) (hs:SortedTo (arrOf st) a₀.size)
    (h:∀ st',(arrOf st').Perm a₀→failedOf st'=none→SortedTo (arrOf st') a₀.size→Q () st'):wpS (model prog w) A E s sortRuns' Q st:=by
  rw [sortRuns'_eq]
  refine wpS_bind (wpS_get ?_)
  dsimp only
  simp only [hB.size]
  generalize minRun' a₀.size a₀.size 0=mr
  refine wpS_bind (wpS_mono (wpS_forRange
    (I:=fun x c st'=>(x=0∧c=(none,0)∧st'=st)∨(1≤x∧c=(none,a₀.size)∧SDone a₀ st')) (Q:=fun c st'=>c=(none,a₀.size)∧SDone a₀ st') ?step ?fin (.inl ⟨rfl,rfl,rfl⟩)) ?post)
  case fin=>
    rintro c st' (⟨hx,_,_⟩ | ⟨_,hc,hD⟩)
    · omega
    · exact ⟨hc,hD⟩
  case step=>
    rintro x c st' _ hx (⟨rfl,rfl,rfl⟩ | ⟨hx1,rfl,hD⟩)
    · dsimp only
      rw [if_neg (by omega),Nat.sub_zero]
      refine wpS_bind (count_asc h0 hB (by omega) hs ?_)
      dsimp only
      by_cases hlt:a₀.size<mr
      · rw [if_pos hlt,Nat.min_eq_left (Nat.le_of_lt hlt)]
        refine wpS_bind (wpS_lift (wpAny_rule ⟨rfl,?_⟩))
        refine wpS_bind (wpS_binarySort h0 (Nat.le_refl _) (Nat.le_refl _) hB hs fun st3 hB3 hs3=>?_)
        simp only [Bool.not_true,Bool.false_eq_true,if_false]
        refine wpS_bind (wpS_get ?_)
        rw [show (pendingOf st3).back?=none by rw [hB3.pend]; rfl]
        exact wpS_bind (wpS_modify (wpS_pure (.inr ⟨by omega,by rw [Nat.zero_add],hB3.done hs3⟩)))
      · rw [if_neg hlt]
        refine wpS_bind (wpS_get ?_)
        rw [show (pendingOf st').back?=none by rw [hB.pend]; rfl]
        exact wpS_bind (wpS_modify (wpS_pure (.inr ⟨by omega,by rw [Nat.zero_add],hB.done hs⟩)))
    · dsimp only
      rw [if_pos (Nat.le_refl _)]
      exact wpS_pure ⟨rfl,hD⟩
  case post=>
    rintro c st' ⟨rfl,hD⟩
    dsimp only
    refine wpS_bind (wpS_mono (wpS_forRange (I:=fun _ c st''=>st''=st'∧c=(none,())) (Q:=fun c st''=>st''=st'∧c=(none,())) ?_ (fun _ _ hh=>hh) ⟨rfl,rfl⟩) ?_)
    · rintro x c st'' _ _ ⟨rfl,rfl⟩
      refine wpS_bind (wpS_get ?_)
      rw [if_pos (by rw [hD.2.2.1]; exact Nat.le_refl 1)]
      exact wpS_pure ⟨rfl,rfl⟩
    · rintro c st'' ⟨rfl,rfl⟩
      exact wpS_pure (h _ hD.1 hD.2.1 hD.2.2.2)
theorem ints_at:∀ {vs:List Value} {ns:List Int},IntsAre vs ns→∀ (i:Nat) (hi:i<vs.length),∃ t,vs[i] = .int (ns.getD i 0) t
  | _,_,.nil,i,hi=>absurd hi (Nat.not_lt_zero _)
  | _,_,.cons n t r,0,_=>⟨t,rfl⟩
  | _,_,.cons n t r,i+1,hi=>ints_at r i (Nat.lt_of_succ_lt_succ hi)
theorem K_pairs {vs:List Value} {ns:List Int} (hI:IntsAre vs ns) {i:Nat} (hi:i<vs.length):K (pairsOf vs) i=ns.getD i 0:=by
  have hi':i<(pairsOf vs).size:=by rw [pairsOf_size]; exact hi
  rw [K_eq hi']
  obtain ⟨t,e⟩:=ints_at hI i hi
  have e2:((pairsOf vs)[i]).1=vs[i]:=by simp [pairsOf]
  rw [e2,e]
  rfl
theorem sorted_pairs {vs:List Value} {ns:List Int} (hI:IntsAre vs ns) (h:ns.Pairwise (·≤·)):SortedTo (pairsOf vs) (pairsOf vs).size:=by
  intro i j hij hj
  rw [pairsOf_size] at hj
  have hl:vs.length=ns.length:=IntsAre.length hI
  rw [K_pairs hI (by omega),K_pairs hI hj,List.getD_eq_getElem?_getD,List.getD_eq_getElem?_getD,List.getElem?_eq_getElem (by omega),List.getElem?_eq_getElem (by omega)]
  rcases Nat.lt_or_ge i j with q | q
  · exact List.pairwise_iff_getElem.mp h i j _ _ q
  · obtain rfl:i=j:=by omega
    exact Int.le_refl _
theorem sort_any {a:Addr} {vs:List Value} {ns:List Int} {n:Nat} {P:Fin→Shared→Prop} (ho:s.heap.get? a=some (seqObj "list" vs.toArray n))
    (hI:IntsAre vs ns) (hz:vs.length≤sizeLine) (hasc:vs.length<64∨ns.Pairwise (·≤·))
    (h:∀ (out:Array Value) (ns':List Int),IntsAre out.toList ns'→ns'.Perm ns→ns'.Pairwise (·≤·)→P (.done (.ret .none)) { s with heap:=sortedHeap s.heap a vs out }) :
    wpAny (model prog w) A (Builtin.«list.sort» ⟨[.ref a],[]⟩) P E s:=by
  have hsz:vs.toArray.size=vs.length:=by simp
  by_cases hsm:vs.length<64
  · exact list_sort_tree ho hI hsm h
  replace hasc:=hasc.resolve_left hsm
  obtain ⟨v₁,v₂,rest,rfl⟩:∃ v₁ v₂ rest,vs=v₁::v₂::rest:=by
    match vs,hsm with
    | [],h2=>simp at h2
    | [_],h2=>simp at h2
    | v₁::v₂::rest,_=>exact ⟨v₁,v₂,rest,rfl⟩
  have ha:a<s.heap.objs.size:=Heap.lt_size ho
  rw [list_sort_plain]
  refine wpAny_bind (listItems_at ho rfl ?_)
  refine wpAny_bind (listUpdate_at ho rfl ?_ (by rw [hsz]; exact hz) (by simp))
  obtain ⟨e1,ho1⟩:∃ e1,(s.heap.update a (Obj.mapSeq fun _=>#[])).get? a=some (seqObj "list" #[] e1):=⟨_,get?_update_seq ho (fun _=>#[])⟩
  refine wpAny_bind (seqEpoch_at ho1 rfl ?_)
  refine wpAny_bind (wpAny_newTuple ?_ hz)
  refine wpAny_bind (wpAny_newList ?_)
  refine wpAny_holding ?_
  have ho6:(((s.heap.update a (Obj.mapSeq fun _=>#[])).push (seqObj "tuple" (v₁::v₂::rest).toArray 0)).push (seqObj "list" #[] 0)).get? a=some (seqObj "list" #[] e1):=by
    rw [Heap.get?_push_ne _ _ _ (by rw [size_push',Heap.size_update]; exact Nat.ne_of_lt (Nat.lt_succ_of_lt ha)),Heap.get?_push_ne _ _ _ (by rw [Heap.size_update]; exact Nat.ne_of_lt ha)]
    exact ho1
  show wpAny (model prog w) A _ P E { s with heap:=((s.heap.update a (Obj.mapSeq fun _=>#[])).push (seqObj "tuple" (v₁::v₂::rest).toArray 0)).push (seqObj "list" #[] 0) }
  dsimp only
  have h2:¬ (v₁::v₂::rest).toArray.size<2:=by simp
  rw [if_neg h2,if_neg h2,keyKind_ints hI]
  refine wpAny_bind (wpAny_pure ?_)
  refine wpAny_bind (wpAny_mono (runs_asc (a₀:=pairsOf (v₁::v₂::rest)) (st:=SortSt.mk' oneType' ((v₁::v₂::rest).toArray.zip (v₁::v₂::rest).toArray) #[] 7 none)
    (Q:=fun _ st'=>(arrOf st').Perm (pairsOf (v₁::v₂::rest))∧failedOf st'=none∧SortedTo (arrOf st') (pairsOf (v₁::v₂::rest)).size)
    hI.intKeys ⟨Array.Perm.refl _,rfl,rfl,rfl⟩ (by rw [pairsOf_size]; simp) (sorted_pairs hI hasc) fun st' a1 a2 a3=>⟨a1,a2,a3⟩) ?_ fun _ _ e=>e)
  rintro ⟨⟨⟩,st'⟩ s' ⟨rfl,hp,hf,hs⟩
  dsimp only
  refine wpAny_bind (seqEpoch_at ho6 rfl ?_)
  refine wpAny_bind (listUpdate_at ho6 rfl ?_ (by simp) (by
    refine Nat.le_trans (Nat.le_of_eq ((Array.size_map ..).trans (hp.size_eq.trans (pairsOf_size _)))) ?_
    exact Nat.le_succ_of_le hz))
  rw [hf]
  simp only [bne_self_eq_false,Bool.false_eq_true,if_false]
  obtain ⟨ns',a1,a2,a3⟩:=sorted_out hI hp hs
  exact wpAny_pure (h _ ns' a1 a2 a3)
end
end Mine
end
section
open PySem PyProof.Rows
set_option Elab.async false
namespace Mine
set_option genInjectivity true
inductive D where
  | none
  | bool (b:Bool)
  | int (i:Int)
  | str (x:Str)
  | tuple (xs:List D)
  | list (xs:List D)
  | obj (a:Addr)
inductive MObj where
  | mlist (ds:List D)
  | inst (C dx:Addr) (fs:List (Str×D))
  | mdict (kvs:List (Int×D))
set_option genInjectivity false
noncomputable abbrev Store:=Addr→Option MObj
noncomputable def dom (σ:Store) (a:Addr):Prop:=σ a≠Option.none∨∃ x C fs,σ x=some (.inst C a fs)
mutual
noncomputable def Rep (N:Addr→Prop) (h:Heap):D→Value→Prop
  | .none,v=>v = .none
  | .bool b,v=>v = .bool b
  | .int i,v=>∃ t,v = .int i t
  | .str x,v=>∃ t,v = .str x t
  | .tuple ds,v=>∃ a vs,v = .ref a∧N a∧h.IsTuple a vs∧RepL N h ds vs.toList
  | .list ds,v=>∃ a vs,v = .ref a∧N a∧h.IsList a vs∧RepL N h ds vs.toList
  | .obj a,v=>v = .ref a
noncomputable def RepL (N:Addr→Prop) (h:Heap):List D→List Value→Prop
  | [],vs=>vs=[]
  | d::ds,vs=>∃ v r,vs=v::r∧Rep N h d v∧RepL N h ds r
end
noncomputable def still (o:Obj):Prop:=∃ items n,o.data = .seq items n
noncomputable def Stay (N N':Addr→Prop) (h h':Heap):Prop:=
  ∀ a o,N a→h.get? a=some o→still o→h'.get? a=some o∧N' a
mutual
theorem Rep.stay {N N':Addr→Prop} {h h':Heap} (k:Stay N N' h h'):∀ (d:D) (v:Value),Rep N h d v→Rep N' h' d v
  | .none,v,x=>by simp only [Rep] at x ⊢; exact x
  | .bool b,v,x=>by simp only [Rep] at x ⊢; exact x
  | .int i,v,x=>by simp only [Rep] at x ⊢; exact x
  | .str i,v,x=>by simp only [Rep] at x ⊢; exact x
  | .obj i,v,x=>by simp only [Rep] at x ⊢; exact x
  | .tuple ds,v,x=>by
    simp only [Rep] at x ⊢
    obtain ⟨a,vs,e,hN,⟨o,ho,hc,n,hd⟩,hr⟩:=x
    obtain ⟨h1,h2⟩:=k a o hN ho ⟨vs,n,hd⟩
    exact ⟨a,vs,e,h2,⟨o,h1,hc,n,hd⟩,RepL.stay k ds _ hr⟩
  | .list ds,v,x=>by
    simp only [Rep] at x ⊢
    obtain ⟨a,vs,e,hN,⟨o,ho,hc,n,hd⟩,hr⟩:=x
    obtain ⟨h1,h2⟩:=k a o hN ho ⟨vs,n,hd⟩
    exact ⟨a,vs,e,h2,⟨o,h1,hc,n,hd⟩,RepL.stay k ds _ hr⟩
theorem RepL.stay {N N':Addr→Prop} {h h':Heap} (k:Stay N N' h h'):∀ (ds:List D) (vs:List Value),RepL N h ds vs→RepL N' h' ds vs
  | [],vs,x=>by simp only [RepL] at x ⊢; exact x
  | d::ds,vs,x=>by
    simp only [RepL] at x ⊢
    obtain ⟨v,r,e,h1,h2⟩:=x
    exact ⟨v,r,e,Rep.stay k d v h1,RepL.stay k ds r h2⟩
end
theorem RepL.length {N:Addr→Prop} {h:Heap}:∀ {ds:List D} {vs:List Value},RepL N h ds vs→vs.length=ds.length
  | [],vs,x=>by simp only [RepL] at x; subst x; rfl
  | d::ds,vs,x=>by
    simp only [RepL] at x
    obtain ⟨v,r,rfl,_,h2⟩:=x
    simp [RepL.length h2]
theorem RepL.get {N:Addr→Prop} {h:Heap}:∀ {ds:List D} {vs:List Value},RepL N h ds vs→∀ {i:Nat} {d:D},ds[i]?=some d→∃ v,vs[i]?=some v∧Rep N h d v
  | [],vs,x,i,d,e=>by simp at e
  | d::ds,vs,x,i,d',e=>by
    simp only [RepL] at x
    obtain ⟨v,r,rfl,h1,h2⟩:=x
    cases i with
    | zero=>simp at e; subst e; exact ⟨v,rfl,h1⟩
    | succ i=>simp at e; obtain ⟨u,hu,hr⟩:=RepL.get h2 e; exact ⟨u,by simpa using hu,hr⟩
theorem RepL.append {N:Addr→Prop} {h:Heap}:∀ {ds es:List D} {vs us:List Value},RepL N h ds vs→RepL N h es us→RepL N h (ds++es) (vs++us)
  | [],es,vs,us,x,y=>by simp only [RepL] at x; subst x; simpa using y
  | d::ds,es,vs,us,x,y=>by
    simp only [RepL] at x
    obtain ⟨v,r,rfl,h1,h2⟩:=x
    exact ⟨v,r++us,rfl,h1,RepL.append h2 y⟩
theorem RepL.nil {N:Addr→Prop} {h:Heap}:RepL N h [] []:=by simp [RepL]
theorem RepL.cons {N:Addr→Prop} {h:Heap} {d ds v vs} (x:Rep N h d v) (y:RepL N h ds vs):RepL N h (d::ds) (v::vs):=by simp only [RepL]; exact ⟨v,vs,rfl,x,y⟩
theorem RepL.one {N:Addr→Prop} {h:Heap} {d v} (x:Rep N h d v):RepL N h [d] [v] := .cons x .nil
noncomputable def nd (σ:Store) (P:Addr→Prop) (a:Addr):Prop:=¬ dom σ a∧¬ P a
noncomputable def EntS:List DictEntry→List Str→List Value→Prop
  | [],[],[]=>True
  | e::es,k::ks,v::vs=>(∃ t,e.key = .str k t)∧e.val=v∧EntS es ks vs
  | _,_,_=>False
noncomputable def EntI:List DictEntry→List Int→List Value→Prop
  | [],[],[]=>True
  | e::es,k::ks,v::vs=>(∃ t,e.key = .int k t)∧e.hash=hashInt k∧e.val=v∧EntI es ks vs
  | _,_,_=>False
noncomputable def MRep (σ:Store) (P:Addr→Prop) (h:Heap) (a:Addr):MObj→Prop
  | .mlist ds=>∃ vs,h.PlainList a vs∧RepL (nd σ P) h ds vs.toList
  | .inst C dx fs=>∃ (n:Nat) (es:List DictEntry) (vs:List Value),h.get? a=some ({ cls := .ref C,dict:=some dx,data := .plain }:Obj)∧h.get? dx=some ({ cls := .type "dict",data := .dict es.toArray n }:Obj)∧EntS es (fs.map (·.1)) vs∧es.length≤1000∧
      RepL (nd σ P) h (fs.map (·.2)) vs∧(fs.map (·.1)).Nodup∧dx≠a
  | .mdict kvs=>∃ (n:Nat) (es:List DictEntry) (vs:List Value),h.get? a=some ({ cls := .type "dict",data := .dict es.toArray n }:Obj)∧EntI es (kvs.map (·.1)) vs∧RepL (nd σ P) h (kvs.map (·.2)) vs∧(kvs.map (·.1)).Nodup∧a≠sysModules
structure StoreOk (σ:Store) (P:Addr→Prop) (h:Heap):Prop where
  rep:∀ a mo,σ a=some mo→MRep σ P h a mo
  apart:∀ x C dx fs,σ x=some (.inst C dx fs)→σ dx=Option.none∧∀ y C' fs',σ y=some (.inst C' dx fs')→y=x
  free:∀ a,dom σ a→¬ P a
noncomputable def WL (l:List Env) (a:Addr):Prop:=∃ e∈l,e.frame=some a
structure Step (W F:Addr→Prop) (σ σ':Store) (s s':Shared):Prop where
  same:∃ h' tk,s'={ s with heap:=h',toks:=tk }
  keep:∀ a o,s.heap.get? a=some o→¬ dom σ a→¬ F a→¬ W a→s'.heap.get? a=some o
  slot:∀ a o,s.heap.get? a=some o→W a→¬ dom σ a→¬ F a→∃ sl,s'.heap.get? a=some { o with slots:=sl }
  alive:∀ a o,s.heap.get? a=some o→∃ o',s'.heap.get? a=some o'
  new:∀ a,dom σ' a→dom σ a∨s.heap.get? a=Option.none
noncomputable abbrev noF:Addr→Prop:=fun _=>False
theorem Step.refl (W F σ s):Step W F σ σ s s:=⟨⟨s.heap,s.toks,rfl⟩,fun _ _ e _ _ _=>e,fun _ o e _ _ _=>⟨o.slots,e⟩,fun _ o e=>⟨o,e⟩,fun _ x => .inl x⟩
theorem Step.trans {W F σ σ₁ σ₂ s s₁ s₂} (x:Step W F σ σ₁ s s₁) (y:Step W F σ₁ σ₂ s₁ s₂):Step W F σ σ₂ s s₂:=by
  have nd:∀ a o,s.heap.get? a=some o→¬ dom σ a→¬ dom σ₁ a:=fun a o e hd h1=>(x.new a h1).elim hd (fun hn=>by rw [hn] at e; cases e)
  refine ⟨?_,fun a o e hd hf hw=>y.keep a o (x.keep a o e hd hf hw) (nd a o e hd) hf hw,fun a o e hw hd hf=>?_,fun a o e=>?_,fun a ha=>?_⟩
  · obtain ⟨h₁,t₁,rfl⟩:=x.same
    obtain ⟨h₂,t₂,rfl⟩:=y.same
    exact ⟨h₂,t₂,rfl⟩
  · obtain ⟨sl,h1⟩:=x.slot a o e hw hd hf
    obtain ⟨sl',h2⟩:=y.slot a _ h1 hw (nd a o e hd) hf
    exact ⟨sl',h2⟩
  · obtain ⟨o',e'⟩:=x.alive a o e
    exact y.alive a o' e'
  · rcases y.new a ha with h | h
    · exact x.new a h
    · right
      cases e:s.heap.get? a with
      | none=>rfl
      | some o=>obtain ⟨o',e'⟩:=x.alive a o e; rw [h] at e'; cases e'
theorem Step.weak {W F F' σ σ' s s'} (x:Step W F σ σ' s s') (h:∀ a,F a→F' a):Step W F' σ σ' s s':=⟨x.same,fun a o e hd hf=>x.keep a o e hd (fun q=>hf (h a q)),fun a o e hw hd hf=>x.slot a o e hw hd (fun q=>hf (h a q)),x.alive,x.new⟩
theorem Step.of_keeps {W F σ s s'} (x:Keeps s s'):Step W F σ σ s s':=by
  obtain ⟨h',tk,rfl,hk⟩:=x
  exact ⟨⟨h',tk,rfl⟩,fun a o e _ _ _=>hk a o e,fun a o e _ _ _=>⟨o.slots,hk a o e⟩,fun a o e=>⟨o,hk a o e⟩,fun _ h => .inl h⟩
theorem Step.mk' {W F σ σ' s s'} (same:∃ h' tk,s'={ s with heap:=h',toks:=tk }) (keep:∀ a o,s.heap.get? a=some o→¬ dom σ a→¬ F a→s'.heap.get? a=some o)
    (alive:∀ a o,s.heap.get? a=some o→∃ o',s'.heap.get? a=some o') (new:∀ a,dom σ' a→dom σ a∨s.heap.get? a=Option.none):Step W F σ σ' s s':=
  ⟨same,fun a o e hd hf _=>keep a o e hd hf,fun a o e _ hd hf=>⟨o.slots,keep a o e hd hf⟩,alive,new⟩
theorem Step.stay {W σ σ' s s'} {P:Addr→Prop} (x:Step W noF σ σ' s s') (hw:∀ a,W a→P a):Stay (nd σ P) (nd σ' P) s.heap s'.heap:=fun a o hN ho _=>
  ⟨x.keep a o ho hN.1 (fun h=>h) (fun h=>hN.2 (hw a h)),fun h=>(x.new a h).elim hN.1 (fun e=>by rw [e] at ho; cases ho),hN.2⟩
structure Bx where
  prog:Program
  w:World
  b:Heap
  mg:Str→Option Value
  mb:Str→Option Value
  hg:b.Ns mainGlobals mg
  hb:b.Ns builtinsNs mb
  hl:b.NoLimit
  K:PySem.W.Frag
  KX:K.In b
noncomputable def Bx.glob (c:Bx) (x:Str):Option Value:=(c.mg x).or (c.mb x)
noncomputable abbrev Bx.M (c:Bx):Model:=model c.prog c.w
noncomputable def Frs (h:Heap) (l:List Env):Prop:=∀ e∈l,e.scope.kind ≠ .module∧∃ L o,e.frame=some L∧h.get? L=some o∧∀ vs,o.data ≠ .fields vs
noncomputable def Fly (l:List Env) (h₀:Heap) (e C:Addr) (h:Heap):Prop:=
  h₀.get? e=Option.none∧((∃ h₁ vs,Heap.MadeExcOf h₁ h e (.ref C) vs∧∀ a o,h₀.get? a=some o→∃ o',h₁.get? a=some o') ∨
    ∃ a0 fl,h.TracedAtW h₀ e (.ref C) a0 fl∧(fl = .none∨∃ env r L,l=env::r∧env.frame=some L∧fl=rawInt L))
structure Cx extends Bx where
  l:List Env
  E:Value→Shared→Prop
  X:Addr→Store→Prop
  cur:Option (Nat×Addr)
  F₀:Addr→Prop
  σ₀:Store
  s₀:Shared
  P₀:Addr→Prop
  exc:∀ e C σ' s',X C σ'→Step (WL l) F₀ σ₀ σ' s₀ s'→StoreOk σ' P₀ s'.heap→Frs s'.heap l→Fly l s₀.heap e C s'.heap→E (.ref e) s'
noncomputable abbrev Cx.W (c:Cx):Addr→Prop:=WL c.l
noncomputable def Room (n:Nat) (A:Around):Prop:=A.handled=Option.none∧A.depth+n≤900∧A.units+10*n+500≤9000
theorem Room.deeper {n:Nat} {A:Around} (h:Room (n+1) A) (env:Env):Room n (A.deeper env):=by
  obtain ⟨a,b,d⟩:=h
  refine ⟨a,?_,?_⟩
  · show A.depth+1+n≤900; omega
  · show A.units+3+10*n+500≤9000; omega
theorem Room.le {n m:Nat} {A:Around} (h:Room n A) (hm:m≤n):Room m A:=⟨h.1,by have:=h.2.1; omega,by have:=h.2.2; omega⟩
noncomputable abbrev PEnv:=List (Option D)
noncomputable def PEnv.at:PEnv→Nat→Option D
  | [],_=>Option.none
  | d::_,0=>d
  | _::r,i+1=>PEnv.at r i
noncomputable def PEnv.put:PEnv→Nat→D→PEnv
  | [],_,_=>[]
  | _::r,0,d=>some d::r
  | e::r,i+1,d=>e::PEnv.put r i d
theorem PEnv.at_put:∀ (ρ:PEnv) (i j:Nat) (d e:D),(ρ.put i d).at j=some e→(j=i∧e=d)∨(j≠i∧ρ.at j=some e)
  | [],i,j,d,e,h=>by simp [PEnv.put,PEnv.at] at h
  | x::r,0,0,d,e,h=>by simp [PEnv.put,PEnv.at] at h; exact .inl ⟨rfl,h.symm⟩
  | x::r,0,j+1,d,e,h=>by simp [PEnv.put,PEnv.at] at h; exact .inr ⟨by omega,by simpa [PEnv.at] using h⟩
  | x::r,i+1,0,d,e,h=>by simp [PEnv.put,PEnv.at] at h; exact .inr ⟨by omega,by simpa [PEnv.at] using h⟩
  | x::r,i+1,j+1,d,e,h=>by
    simp [PEnv.put,PEnv.at] at h
    rcases PEnv.at_put r i j d e h with ⟨a,b⟩ | ⟨a,b⟩
    · exact .inl ⟨by omega,b⟩
    · exact .inr ⟨by omega,by simpa [PEnv.at] using b⟩
noncomputable def VarIs (env:Env) (h:Heap) (x:Str) (v:Value):Prop:=
  (env.kindOf x=some .local∧∃ m,h.Ns env.locals m∧m x=some v)∨(env.kindOf x=some .cell∧∃ ca,env.cells.lookup x=some ca∧h.IsCell ca (some v))
noncomputable def FrA (env:Env) (a:Addr):Prop:=a=env.locals∨∃ x,env.cells.lookup x=some a
structure EnvOk (nm:Nat→Str) (vs:List Nat) (env:Env):Prop where
  kind:env.scope.kind = .function
  globals:env.globals=mainGlobals
  builtins:env.builtins=builtinsNs
  inj:∀ i∈vs,∀ j∈vs,nm i=nm j→i=j
  kinds:∀ i∈vs,env.kindOf (nm i)=some .local∨(env.kindOf (nm i)=some .cell∧∃ ca,env.cells.lookup (nm i)=some ca)
  dbg:∀ i∈vs,(nm i==("__debug__" : Str))=false
  apart:env.cells.Pairwise fun x y=>x.2≠y.2
structure Good (c:Cx) (nm:Nat→Str) (vs:List Nat) (env:Env) (ρ:PEnv) (σ:Store) (P:Addr→Prop) (s:Shared):Prop where
  base:∀ a o,c.b.get? a=some o→s.heap.get? a=some o
  ns:∃ m,s.heap.Ns env.locals m
  cell:∀ x ca,env.cells.lookup x=some ca→∃ v,s.heap.IsCell ca v
  var:∀ i d,ρ.at i=some d→i∈vs∧∃ v,VarIs env s.heap (nm i) v∧Rep (nd σ P) s.heap d v
  st:StoreOk σ P s.heap
  own:∀ a,dom σ a→c.b.get? a=Option.none∧¬ FrA env a
  fresh:∀ a,FrA env a→c.b.get? a=Option.none
  prot:∀ a,P a→∃ o,s.heap.get? a=some o
  wp:∀ a,c.W a→P a
  wb:∀ a,c.W a→c.b.get? a=Option.none
  fr:Frs s.heap c.l
  p0:∀ a,c.P₀ a→P a
  since:Step c.W c.F₀ c.σ₀ σ c.s₀ s
  cur:∀ i C,c.cur=some (i,C)→i∈vs∧∃ a o,VarIs env s.heap (nm i) (.ref a)∧nd σ P a∧s.heap.get? a=some o∧o.cls = .ref C∧∃ fs,o.data = .fields fs
theorem Frs.step {W F σ σ' s s'} {l:List Env} (x:Frs s.heap l) (st:Step W F σ σ' s s') (hw:∀ a,WL l a→W a) (hd:∀ a,WL l a→¬ dom σ a) (hf:∀ a,WL l a→¬ F a):Frs s'.heap l:=fun e he=>by
  obtain ⟨k,L,o,h1,h2,h3⟩:=x e he
  obtain ⟨sl,h4⟩:=st.slot L o h2 (hw L ⟨e,he,h1⟩) (hd L ⟨e,he,h1⟩) (hf L ⟨e,he,h1⟩)
  exact ⟨k,L,_,h1,h4,h3⟩
theorem VarIs.keep {env:Env} {h h':Heap} {x:Str} {v:Value} (y:VarIs env h x v) (k:∀ a o,FrA env a→h.get? a=some o→∃ sl,h'.get? a=some { o with slots:=sl }):VarIs env h' x v:=by
  rcases y with ⟨a,m,hn,hm⟩ | ⟨a,ca,hc,o,ho,hd⟩
  · refine .inl ⟨a,m,?_,hm⟩
    obtain ⟨o,es,ep,h1,h2,h3⟩:=hn
    obtain ⟨sl,h4⟩:=k _ o (.inl rfl) h1
    exact ⟨_,es,ep,h4,h2,h3⟩
  · obtain ⟨sl,h4⟩:=k ca o (.inr ⟨x,hc⟩) ho
    exact .inr ⟨a,ca,hc,_,h4,hd⟩
theorem VarIs.keep' {env:Env} {h h':Heap} {x:Str} {v:Value} (y:VarIs env h x v) (k:∀ a o,FrA env a→h.get? a=some o→h'.get? a=some o):VarIs env h' x v:=y.keep fun a o ha e=>⟨o.slots,k a o ha e⟩
theorem Good.fr_alive {c nm vs env ρ σ P s} (g:Good c nm vs env ρ σ P s) {a:Addr} (h:FrA env a):∃ o,s.heap.get? a=some o∧(∀ items n,o.data ≠ .seq items n)∧∀ fs,o.data ≠ .fields fs:=by
  rcases h with rfl | ⟨x,hx⟩
  · obtain ⟨m,o,es,ep,ho,hd,_⟩:=g.ns
    exact ⟨o,ho,⟨fun items n e=>(by rw [hd] at e; cases e),fun fs e=>(by rw [hd] at e; cases e)⟩⟩
  · obtain ⟨v,o,ho,hd⟩:=g.cell x a hx
    exact ⟨o,ho,⟨fun items n e=>(by rw [hd] at e; cases e),fun fs e=>(by rw [hd] at e; cases e)⟩⟩
theorem Good.w_dom {c nm vs env ρ σ P s} (g:Good c nm vs env ρ σ P s):∀ a,c.W a→¬ dom σ a:=fun a ha hd=>g.st.free a hd (g.wp a ha)
set_option tactic.hygienic true in
theorem Good.next {c nm vs env ρ σ σ' P s s'} (g:Good c nm vs env ρ σ P s) (st:Step c.W noF σ σ' s s') (ok:StoreOk σ' P s'.heap):Good c nm vs env ρ σ' P s':=by
  have kf:∀ a o,FrA env a→s.heap.get? a=some o→∃ sl,s'.heap.get? a=some { o with slots:=sl }:=fun a o ha e=>by
    have hd:¬ dom σ a:=fun hd=>(g.own a hd).2 ha
    by_cases hw:c.W a
    · exact st.slot a o e hw hd (fun h=>h)
    · exact ⟨o.slots,st.keep a o e hd (fun h=>h) hw⟩
  refine ⟨fun a o e=>st.keep a o (g.base a o e) (fun hd=>by rw [(g.own a hd).1] at e; cases e) (fun h=>h) (fun hw=>by rw [g.wb a hw] at e; cases e),?_,fun x ca hx=>?_,fun i d e=>?_,ok,fun a ha=>?_,g.fresh,fun a ha=>?_,g.wp,g.wb,
    g.fr.step st (fun _ h=>h) g.w_dom (fun _ _ h=>h),g.p0,g.since.trans (st.weak fun _ h=>h.elim),fun i C hc=>?_⟩
  · obtain ⟨m,o,es,ep,h1,h2,h3⟩:=g.ns
    obtain ⟨sl,h4⟩:=kf _ o (.inl rfl) h1
    exact ⟨m,_,es,ep,h4,h2,h3⟩
  · obtain ⟨v,o,ho,hd⟩:=g.cell x ca hx
    obtain ⟨sl,h4⟩:=kf ca o (.inr ⟨x,hx⟩) ho
    exact ⟨v,_,h4,hd⟩
  · obtain ⟨hi,v,hv,hr⟩:=g.var i d e
    exact ⟨hi,v,hv.keep kf,Rep.stay (st.stay g.wp) d v hr⟩
  · rcases st.new a ha with h | h
    · exact g.own a h
    · refine ⟨?_,fun hf=>?_⟩
      · cases e:c.b.get? a with
        | none=>rfl
        | some o=>rw [g.base a o e] at h; cases h
      · obtain ⟨o,ho,_⟩:=g.fr_alive hf
        rw [ho] at h; cases h
  · obtain ⟨o,ho⟩:=g.prot a ha
    exact st.alive a o ho
  · obtain ⟨h0,a,o,h1,h2,h3,h4⟩:=g.cur i C hc
    exact ⟨h0,a,o,h1.keep kf,⟨fun q=>(st.new a q).elim h2.1 (fun e=>by rw [e] at h3; cases h3),h2.2⟩,st.keep a o h3 h2.1 (fun h=>h) (fun hw=>h2.2 (g.wp a hw)),h4⟩
end Mine
end
section
open PySem PyProof.Rows
set_option Elab.async false
namespace Mine
inductive BI where
  | len | min2 | list | sorted | lenD | listD | tupleA
noncomputable def BI.val:BI→Value
  | .len => .builtin "len"
  | .min2 => .builtin "min"
  | .list => .type "list"
  | .sorted => .builtin "sorted"
  | .lenD => .builtin "len"
  | .listD => .type "list"
  | .tupleA => .type "tuple"
inductive LM where
  | insert | pop | dpop
noncomputable def LM.name:LM→String
  | .insert => "insert"
  | .pop => "pop"
  | .dpop => "pop"
inductive TY where
  | int | bool | list | tuple
noncomputable def TY.name:TY→String
  | .int => "int"
  | .bool => "bool"
  | .list => "list"
  | .tuple => "tuple"
set_option genCtorIdx false
set_option genInjectivity false
set_option genSizeOf false
set_option genSizeOfSpec false
mutual
inductive PE where
  | var (i:Nat) (p:Pos)
  | cint (i:Int) (p:Pos)
  | cnone (p:Pos)
  | cbool (b:Bool) (p:Pos)
  | cstr (x:Str) (p:Pos)
  | bin (op:Operator) (l r:PE) (p:Pos)
  | neg (e:PE) (p:Pos)
  | not (e:PE) (p:Pos)
  | bop (op:BoolOp) (es:List PE) (p:Pos)
  | cmp (op:CmpOp) (l r:PE) (p:Pos)
  | cmp2 (o₁ o₂:CmpOp) (a b c:PE) (p:Pos)
  | call (g:Nat) (gp:Pos) (args:List PE) (p:Pos)
  | bi (b:BI) (m:Bool) (g:Nat) (gp:Pos) (args:List PE) (p:Pos)
  | isi (e:PE) (ty:TY) (g:Nat) (gp:Pos) (gt:Nat) (tp p:Pos)
  | isi2 (e:PE) (g:Nat) (gp:Pos) (g₁:Nat) (p₁:Pos) (g₂:Nat) (p₂:Pos) (k:Nat) (tp p:Pos)
  | isx (i:Nat) (ip:Pos) (cs os:List Nat) (g:Nat) (gp:Pos) (gt:Nat) (tp p:Pos)
  | sub (o i:PE) (p:Pos)
  | slc (m:Bool) (o:PE) (lo hi:Option PE) (sp p:Pos)
  | list (m:Bool) (es:List PE) (p:Pos)
  | tup (es:List PE) (k:Nat) (p:Pos)
  | mmd (mx:Bool) (g:Nat) (gp:Pos) (e:PE) (cp kp p:Pos)
  | sset (g:Nat) (gp:Pos) (g':Nat) (gp':Pos) (e:PE) (p' p:Pos)
  | app (o:PE) (ap:Pos) (e:PE) (p:Pos)
  | gint (g:Nat) (i:Int) (gp:Pos)
  | intb (e:PE) (g:Nat) (gp:Pos) (p:Pos)
  | lset (e:PE) (g:Nat) (gp:Pos) (g':Nat) (gp':Pos) (p' p:Pos)
  | attr (C:Nat) (o:PE) (name:Str) (p:Pos)
  | meth (C g:Nat) (o:PE) (name:Str) (ap:Pos) (args:List PE) (p:Pos)
  | new (C gi g:Nat) (gp:Pos) (args:List PE) (p:Pos)
  | lm (k:LM) (o:PE) (ap:Pos) (args:List PE) (p:Pos)
  | dct (p:Pos)
  | subd (o i:PE) (p:Pos)
  | comp (m:Bool) (elt:PE) (x:Nat) (xp:Pos) (it:IT) (ifs:List PE) (sc:Scope) (fr:List Nat) (p:Pos)
inductive IT where
  | of (e:PE)
  | range (g:Nat) (gp:Pos) (e:PE) (p:Pos)
  | range2 (g:Nat) (gp:Pos) (a b:PE) (p:Pos)
end
mutual
inductive PS where
  | assign (x:Nat) (xp:Pos) (e:PE) (p:Pos)
  | expr (e:PE) (p:Pos)
  | ite (t:PE) (b o:List PS) (p:Pos)
  | loop (x:Nat) (xp:Pos) (it:IT) (b:List PS) (p:Pos)
  | while (t:PE) (b:List PS) (p:Pos)
  | ret (e:PE) (p:Pos)
  | sattr (C:Nat) (o:PE) (name:Str) (ap:Pos) (e:PE) (p:Pos)
  | ssub (o i:PE) (sp:Pos) (e:PE) (p:Pos)
  | raise (C g:Nat) (gp:Pos) (x:Str) (mp cp p:Pos)
  | try (b:List PS) (hs:List HD) (p:Pos)
inductive HD where
  | mk (cs os:List Nat) (g:Nat) (gp:Pos) (b:List PS) (p:Pos)
  | as (cs os:List Nat) (g:Nat) (gp:Pos) (x:Nat) (b:List PS) (p:Pos)
end
set_option genCtorIdx true
structure Nms where
  nm:Nat→Str
  gn:Nat→Str
mutual
noncomputable def emb (N:Nms):PE→Expr
  | .var i p => .Name (N.nm i) p
  | .cint i p => .Constant (.int i) 0 p
  | .cnone p => .Constant .none 0 p
  | .cbool b p => .Constant (.bool b) 0 p
  | .cstr x p => .Constant (.str x) 0 p
  | .bin op l r p => .BinOp (emb N l) op (emb N r) p
  | .neg e p => .UnaryOp .USub (emb N e) p
  | .not e p => .UnaryOp .Not (emb N e) p
  | .bop op es p => .BoolOp op (embL N es) p
  | .cmp op l r p => .Compare (emb N l) [op] [emb N r] p
  | .cmp2 o₁ o₂ a b c p => .Compare (emb N a) [o₁,o₂] [emb N b,emb N c] p
  | .call g gp args p => .Call (.Name (N.gn g) gp) (embL N args) [] p
  | .bi _ _ g gp args p => .Call (.Name (N.gn g) gp) (embL N args) [] p
  | .isi e _ g gp gt tp p => .Call (.Name (N.gn g) gp) [emb N e,.Name (N.gn gt) tp] [] p
  | .isi2 e g gp g₁ p₁ g₂ p₂ k tp p => .Call (.Name (N.gn g) gp) [emb N e,.Tuple [.Name (N.gn g₁) p₁,.Name (N.gn g₂) p₂] k tp] [] p
  | .isx i ip _ _ g gp gt tp p => .Call (.Name (N.gn g) gp) [.Name (N.nm i) ip,.Name (N.gn gt) tp] [] p
  | .sub o i p => .Subscript (emb N o) (emb N i) p
  | .slc _ o lo hi sp p => .Subscript (emb N o) (.Slice (embO N lo) (embO N hi) Option.none sp) p
  | .list _ es p => .List (embL N es) p
  | .tup es k p => .Tuple (embL N es) k p
  | .mmd _ g gp e cp kp p => .Call (.Name (N.gn g) gp) [emb N e] [⟨some (Str.ofString "default"),.Constant .none 0 cp,kp⟩] p
  | .sset g gp g' gp' e p' p => .Call (.Name (N.gn g) gp) [.Call (.Name (N.gn g') gp') [emb N e] [] p'] [] p
  | .app o ap e p => .Call (.Attribute (emb N o) (Str.ofString "append") ap) [emb N e] [] p
  | .gint g _ gp => .Name (N.gn g) gp
  | .intb e g gp p => .Call (.Name (N.gn g) gp) [emb N e] [] p
  | .lset e g gp g' gp' p' p => .Call (.Name (N.gn g) gp) [.Call (.Name (N.gn g') gp') [emb N e] [] p'] [] p
  | .attr _ o name p => .Attribute (emb N o) name p
  | .meth _ _ o name ap args p => .Call (.Attribute (emb N o) name ap) (embL N args) [] p
  | .new _ _ g gp args p => .Call (.Name (N.gn g) gp) (embL N args) [] p
  | .lm k o ap args p => .Call (.Attribute (emb N o) (Str.ofString k.name) ap) (embL N args) [] p
  | .dct p => .Dict [] [] p
  | .subd o i p => .Subscript (emb N o) (emb N i) p
  | .comp _ elt x xp it ifs sc _ p => .ListComp (emb N elt) [⟨.Name (N.nm x) xp,embI N it,embL N ifs,0⟩] sc p
noncomputable def embL (N:Nms):List PE→List Expr
  | []=>[]
  | e::r=>emb N e::embL N r
noncomputable def embO (N:Nms):Option PE→Option Expr
  | Option.none=>Option.none
  | some e=>some (emb N e)
noncomputable def embI (N:Nms):IT→Expr
  | .of e=>emb N e
  | .range g gp e p => .Call (.Name (N.gn g) gp) [emb N e] [] p
  | .range2 g gp a b p => .Call (.Name (N.gn g) gp) [emb N a,emb N b] [] p
end
mutual
noncomputable def embS (N:Nms):PS→Stmt
  | .assign x xp e p => .Assign [.Name (N.nm x) xp] (emb N e) p
  | .expr e p => .Expr (emb N e) p
  | .ite t b o p => .If (emb N t) (embSs N b) (embSs N o) p
  | .loop x xp it b p => .For (.Name (N.nm x) xp) (embI N it) (embSs N b) [] p
  | .while t b p => .While (emb N t) (embSs N b) [] p
  | .ret e p => .Return (some (emb N e)) p
  | .sattr _ o name ap e p => .Assign [.Attribute (emb N o) name ap] (emb N e) p
  | .ssub o i sp e p => .Assign [.Subscript (emb N o) (emb N i) sp] (emb N e) p
  | .raise _ g gp x mp cp p => .Raise (some (.Call (.Name (N.gn g) gp) [.Constant (.str x) 0 mp] [] cp)) Option.none p
  | .try b hs p => .Try (embSs N b) (embHs N hs) [] [] p
noncomputable def embHs (N:Nms):List HD→List ExceptHandler
  | []=>[]
  | .mk _ _ g gp b p::r => .ExceptHandler (some (.Name (N.gn g) gp)) Option.none (embSs N b) p::embHs N r
  | .as _ _ g gp x b p::r => .ExceptHandler (some (.Name (N.gn g) gp)) (some (N.nm x)) (embSs N b) p::embHs N r
noncomputable def embSs (N:Nms):List PS→List Stmt
  | []=>[]
  | s::r=>embS N s::embSs N r
end
noncomputable def asL (σ:Store):D→Option (List D)
  | .list xs=>some xs
  | .tuple xs=>some xs
  | .obj a=>match σ a with
    | some (.mlist xs)=>some xs
    | _=>Option.none
  | _=>Option.none
noncomputable def truthS (d:D) (σ:Store) (Φ:Bool→Store→Prop):Prop:=match d with
  | .bool b=>Φ b σ
  | _=>False
noncomputable def freshIn (σ:Store) (a:Addr):Prop:=σ a=Option.none∧∀ x C fs,σ x≠some (.inst C a fs)
noncomputable def Store.set (σ:Store) (a:Addr) (m:MObj):Store:=fun x=>if x=a then some m else σ x
noncomputable def mkS (m:Bool) (ds:List D) (σ:Store) (Φ:D→Store→Prop):Prop:=
  if m then ∀ a,freshIn σ a→Φ (.obj a) (σ.set a (.mlist ds)) else Φ (.list ds) σ
noncomputable def small:Nat:=1000000
noncomputable def getF (name:Str):List (Str×D)→Option D
  | []=>Option.none
  | (k,x)::r=>if k=name then some x else getF name r
noncomputable def putF (name:Str) (d:D):List (Str×D)→List (Str×D)
  | []=>[(name,d)]
  | (k,x)::r=>if k=name then (k,d)::r else (k,x)::putF name d r
noncomputable def getK (k:Int):List (Int×D)→Option D
  | []=>Option.none
  | (j,x)::r=>if j=k then some x else getK k r
noncomputable def putK (k:Int) (d:D):List (Int×D)→List (Int×D)
  | []=>[(k,d)]
  | (j,x)::r=>if j=k then (j,d)::r else (j,x)::putK k d r
noncomputable def delK (k:Int) (kvs:List (Int×D)):List (Int×D):=kvs.filter fun x=>decide (x.1≠k)
noncomputable def isTuple:D→Bool
  | .tuple _=>true
  | _=>false
noncomputable def binX (op:Operator) (a b:D) (σ:Store) (Φ:D→Store→Prop):Prop:=match op with
  | .Add=>∃ xs ys,asL σ a=some xs∧asL σ b=some ys∧xs.length+ys.length≤small∧((isTuple a=false∧isTuple b=false∧Φ (.list (xs++ys)) σ)∨(isTuple a=true∧isTuple b=true∧Φ (.tuple (xs++ys)) σ))
  | _=>False
noncomputable def intS (a b:D) (K:Int→Int→Prop):Prop:=match a with
  | .int x=>match b with
    | .int y=>K x y
    | _=>False
  | _=>False
noncomputable def addS (a b:D) (σ:Store) (Φ:D→Store→Prop):Prop:=match a with
  | .int x=>intS (.int x) b fun x y=>Φ (.int (x+y)) σ
  | .list xs=>match b with
    | .list ys=>xs.length+ys.length≤small∧Φ (.list (xs++ys)) σ
    | b=>binX .Add (.list xs) b σ Φ
  | a=>binX .Add a b σ Φ
noncomputable def intK (d:D) (K:Int→Prop):Prop:=match d with
  | .int i=>K i
  | _=>False
noncomputable def mulS (a b:D) (σ:Store) (Φ:D→Store→Prop):Prop:=match a with
  | .obj p=>intK b fun n=>∃ xs,σ p=some (.mlist xs)∧0≤n∧n≤small∧xs.length*n.toNat≤small∧xs≠[]∧Φ (.list (List.replicate n.toNat xs).flatten) σ
  | a=>intS a b fun x y=>(x.natAbs<2 ^ 64∨y.natAbs<2 ^ 64)∧Φ (.int (x*y)) σ
noncomputable def binS (op:Operator) (a b:D) (σ:Store) (Φ:D→Store→Prop):Prop:=match op with
  | .Add=>addS a b σ Φ
  | .Sub=>intS a b fun x y=>Φ (.int (x - y)) σ
  | .Mult=>mulS a b σ Φ
  | .Mod=>intS a b fun x y=>0<y∧Φ (.int (x%y)) σ
  | .FloorDiv=>intS a b fun x y=>(0<y∧y<10 ^ 50)∧Φ (.int (x / y)) σ
  | .Pow=>intS a b fun x y=>(0≤y∧(Builtin.Int.intBits x:Int)*y≤2 ^ 27)∧Φ (.int (x ^ y.toNat)) σ
  | _=>False
mutual
noncomputable def D.py:D→Option PyData
  | .none=>some .none
  | .bool b=>some (.bool b)
  | .int i=>some (.int i)
  | .str x=>some (.str x)
  | .tuple xs=>(D.pys xs).map .tuple
  | .list xs=>(D.pys xs).map .list
  | .obj _=>Option.none
noncomputable def D.pys:List D→Option (List PyData)
  | []=>some []
  | d::ds=>(D.py d).bind fun x=>(D.pys ds).map (x::·)
end
noncomputable def isNone:D→Option Bool
  | .none=>some true
  | .obj _=>some false
  | _=>some false
noncomputable def eqP (σ:Store):D→Option PyData
  | .obj a=>match σ a with
    | some (.mlist xs)=>(D.pys xs).map .list
    | _=>Option.none
  | d=>D.py d
noncomputable def inG (a b:D) (σ:Store) (K:Bool→Prop):Prop:=∃ x ys,eqP σ a=some x∧eqP σ b=some (.list ys)∧SeqAt.shaped x=true∧PyData.canLayAll0 ys=true∧PyData.depthAll ys≤60∧K (ys.any fun y=>PyData.eqv y x)
noncomputable def inS (a b:D) (σ:Store) (K:Bool→Prop):Prop:=match a with
  | .int k=>(∃ ns:List Int,asL σ b=some (ns.map D.int)∧K (ns.contains k))∨(∃ p kvs,b = .obj p∧σ p=some (.mdict kvs)∧K (getK k kvs).isSome)∨inG (.int k) b σ K
  | a=>inG a b σ K
noncomputable def eqG (a b:D) (σ:Store) (K:Bool→Prop):Prop:=∃ x y,eqP σ a=some x∧eqP σ b=some y∧SeqAt.shaped x=true∧SeqAt.shaped y=true∧K (PyData.eqv x y)
noncomputable def eqS' (a b:D) (σ:Store) (K:Bool→Prop):Prop:=match a with
  | .int x=>match b with
    | .int y=>K (decide (x=y))
    | b=>eqG (.int x) b σ K
  | .bool x=>match b with
    | .bool y=>K (x==y)
    | b=>eqG (.bool x) b σ K
  | a=>eqG a b σ K
noncomputable def isS (a b:D) (K:Bool→Prop):Prop:=match b with
  | .none=>∃ t,isNone a=some t∧K t
  | _=>False
noncomputable def cmpS (op:CmpOp) (a b:D) (σ:Store) (Φ:D→Store→Prop):Prop:=match op with
  | .Lt=>intS a b fun x y=>Φ (.bool (decide (x<y))) σ
  | .LtE=>intS a b fun x y=>Φ (.bool (decide (x≤y))) σ
  | .Gt=>intS a b fun x y=>Φ (.bool (decide (x > y))) σ
  | .GtE=>intS a b fun x y=>Φ (.bool (decide (x ≥ y))) σ
  | .Eq=>eqS' a b σ fun t=>Φ (.bool t) σ
  | .NotEq=>eqS' a b σ fun t=>Φ (.bool (!t)) σ
  | .Is=>isS a b fun t=>Φ (.bool t) σ
  | .IsNot=>isS a b fun t=>Φ (.bool (!t)) σ
  | .In=>inS a b σ fun t=>Φ (.bool t) σ
  | .NotIn=>inS a b σ fun t=>Φ (.bool (!t)) σ
noncomputable def subS (o i:D) (σ:Store) (Φ:D→Store→Prop):Prop:=match i with
  | .int k=>∃ xs,asL σ o=some xs∧xs.length≤small∧((0≤k∧∃ d,xs[k.toNat]?=some d∧Φ d σ)∨(k = -1∧∃ d,xs.getLast?=some d∧Φ d σ))
  | _=>False
noncomputable def TY.isL:TY→Bool
  | .list=>true
  | _=>false
noncomputable def TY.isT:TY→Bool
  | .tuple=>true
  | _=>false
noncomputable def TY.isI:TY→Bool
  | .int=>true
  | _=>false
noncomputable def TY.isB:TY→Bool
  | .int=>true
  | .bool=>true
  | _=>false
noncomputable def tyS (ty:TY) (d:D) (σ:Store):Option Bool:=match d with
  | .none=>some false
  | .str _=>some false
  | .int _=>some ty.isI
  | .bool _=>some ty.isB
  | .list _=>some ty.isL
  | .tuple _=>some ty.isT
  | .obj a=>match σ a with
    | some (.mlist _)=>some ty.isL
    | some (.mdict _)=>some false
    | _=>Option.none
noncomputable def ltS (d:D) (σ:Store):Option Bool:=match d with
  | .none=>some false
  | .str _=>some false
  | .int _=>some false
  | .bool _=>some false
  | .list _=>some true
  | .tuple _=>some true
  | .obj a=>match σ a with
    | some (.mlist _)=>some true
    | _=>Option.none
noncomputable def exS (cs os:List Nat) (C:Option Addr) (K:Bool→Prop):Prop:=match C with
  | some C=>if cs.contains C then K true else os.contains C=true∧K false
  | Option.none=>False
noncomputable def dOpt:Option Int→D
  | Option.none => .none
  | some i => .int i
noncomputable def mmS (mx:Bool) (d:D) (σ:Store) (Φ:D→Store→Prop):Prop:=∃ ns:List Int,asL σ d=some (ns.map D.int)∧isTuple d=false∧Φ (dOpt (if mx then maxOf ns else minOf ns)) σ
noncomputable def ssetS (d:D) (σ:Store) (Φ:D→Store→Prop):Prop:=∃ ns:List Nat,asL σ d=some (ns.map fun (k:Nat)=>D.int k)∧isTuple d=false∧(∀ k∈ns,k<6)∧Φ (.list ((keysOf (bitsOf ns)).map fun (k:Nat)=>D.int k)) σ
noncomputable def lsetS (d:D) (σ:Store) (Φ:D→Store→Prop):Prop:=∃ ns:List Nat,d = .tuple (ns.map fun (k:Nat)=>D.int k)∧(∀ k∈ns,k<6)∧ns.length≤small∧Φ (.int (keysOf (bitsOf ns)).length) σ
noncomputable def isML (d:D) (σ:Store):Prop:=match d with
  | .obj a=>∃ xs,σ a=some (.mlist xs)
  | _=>False
noncomputable def appS (d e:D) (σ:Store) (Φ:D→Store→Prop):Prop:=match d with
  | .obj a=>∃ xs,σ a=some (.mlist xs)∧xs.length≤small∧Φ .none (σ.set a (.mlist (xs++[e])))
  | _=>False
noncomputable def oneS (ds:List D) (K:D→Prop):Prop:=match ds with
  | [d]=>K d
  | _=>False
noncomputable def twoS (ds:List D) (K:D→D→Prop):Prop:=match ds with
  | [d,e]=>K d e
  | _=>False
noncomputable def lmOk (k:LM) (d:D) (σ:Store):Prop:=match k with
  | .dpop=>∃ a kvs,d = .obj a∧σ a=some (.mdict kvs)
  | _=>∃ a xs,d = .obj a∧σ a=some (.mlist xs)
noncomputable def lmS (k:LM) (d:D) (ds:List D) (σ:Store) (Φ:D→Store→Prop):Prop:=match k with
  | .insert=>twoS ds fun i e=>intK i fun i=>∃ a xs,d = .obj a∧σ a=some (.mlist xs)∧0≤i∧i≤xs.length∧xs.length≤small∧Φ .none (σ.set a (.mlist (xs.take i.toNat++e::xs.drop i.toNat)))
  | .pop=>oneS ds fun i=>intK i fun i=>∃ a xs e,d = .obj a∧σ a=some (.mlist xs)∧0≤i∧xs[i.toNat]?=some e∧xs.length≤small∧Φ e (σ.set a (.mlist (xs.eraseIdx i.toNat)))
  | .dpop=>oneS ds fun i=>intK i fun i=>∃ a kvs e,d = .obj a∧σ a=some (.mdict kvs)∧getK i kvs=some e∧kvs.length≤small∧Φ e (σ.set a (.mdict (delK i kvs)))
noncomputable def instS (C:Nat) (name:Str) (d:D) (σ:Store):Prop:=∃ a dx fs,d = .obj a∧σ a=some (.inst C dx fs)∧getF name fs=Option.none
noncomputable def attrS (C:Nat) (name:Str) (d:D) (σ:Store) (Φ:D→Store→Prop):Prop:=∃ a dx fs x,d = .obj a∧σ a=some (.inst C dx fs)∧getF name fs=some x∧Φ x σ
noncomputable def subdS (o i:D) (σ:Store) (Φ:D→Store→Prop):Prop:=∃ a kvs k x,o = .obj a∧σ a=some (.mdict kvs)∧i = .int k∧getK k kvs=some x∧Φ x σ
noncomputable def setS (C:Nat) (name:Str) (o d:D) (σ:Store) (K:Store→Prop):Prop:=∃ a dx fs,o = .obj a∧σ a=some (.inst C dx fs)∧fs.length≤900∧K (σ.set a (.inst C dx (putF name d fs)))
noncomputable def stoS (o i d:D) (σ:Store) (K:Store→Prop):Prop:=match i with
  | .int j=>(∃ a xs,o = .obj a∧σ a=some (.mlist xs)∧0≤j∧j<xs.length∧xs.length≤small∧K (σ.set a (.mlist (xs.set j.toNat d)))) ∨
      (∃ a kvs,o = .obj a∧σ a=some (.mdict kvs)∧kvs.length≤small∧K (σ.set a (.mdict (putK j d kvs))))
  | _=>False
noncomputable def biS (b:BI) (m:Bool) (ds:List D) (σ:Store) (Φ:D→Store→Prop):Prop:=match b with
  | .len=>oneS ds fun d=>∃ xs,asL σ d=some xs∧xs.length≤small∧Φ (.int xs.length) σ
  | .min2=>twoS ds fun a b=>intS a b fun x y=>Φ (.int (if y<x then y else x)) σ
  | .list=>oneS ds fun d=>∃ xs,asL σ d=some xs∧xs.length≤small∧mkS m xs σ Φ
  | .sorted=>oneS ds fun d=>∃ ns ms:List Int,asL σ d=some (ns.map D.int)∧isTuple d=false∧ns.length≤small∧(ns.length<64∨ns.Pairwise (·≤·))∧ms.Perm ns∧ms.Pairwise (·≤·)∧mkS m (ms.map D.int) σ Φ
  | .lenD=>oneS ds fun d=>∃ a kvs,d = .obj a∧σ a=some (.mdict kvs)∧kvs.length≤small∧Φ (.int kvs.length) σ
  | .listD=>oneS ds fun d=>∃ a kvs,d = .obj a∧σ a=some (.mdict kvs)∧kvs.length≤small∧mkS m (kvs.map fun x=>D.int x.1) σ Φ
  | .tupleA=>oneS ds fun d=>∃ xs,asL σ d=some xs∧xs.length≤small∧Φ (.tuple xs) σ
noncomputable def partI:Option D→Option (Option Int)
  | Option.none=>some Option.none
  | some (.int k)=>some (some k)
  | _=>Option.none
noncomputable def sliceD (xs:List D) (lo hi:Option Int):List D:=
  (xs.drop (lo.elim 0 (clipAt xs.length))).take (hi.elim xs.length (clipAt xs.length) - lo.elim 0 (clipAt xs.length))
noncomputable def slcS (m:Bool) (o:D) (lo hi:Option D) (σ:Store) (Φ:D→Store→Prop):Prop:=match o with
  | .str x=>(∃ l,partI lo=some l)∧(∃ h,partI hi=some h)∧x.length≤small∧∀ y,Φ (.str y) σ
  | o=>∃ xs l h,asL σ o=some xs∧partI lo=some l∧partI hi=some h∧xs.length≤small∧(match isTuple o with | true=>Φ (.tuple (sliceD xs l h)) σ | false=>mkS m (sliceD xs l h) σ Φ)
inductive Res where
  | next (ρ:PEnv) (σ:Store)
  | ret (d:D) (σ:Store)
  | brk (ρ:PEnv) (σ:Store)
  | cont (ρ:PEnv) (σ:Store)
noncomputable def keepS (d:D) (ds:List D) (σ:Store):Prop:=match d with
  | .obj a=>σ a=some (.mlist ds)
  | _=>True
noncomputable def forS (step:D→PEnv→Store→(Res→Prop)→Prop) (keep:Store→Prop):List D→PEnv→Store→(Res→Prop)→Prop
  | [],ρ,σ,Φ=>Φ (.next ρ σ)
  | d::ds,ρ,σ,Φ=>step d ρ σ fun r=>match r with
    | .next ρ' σ'=>keep σ'∧forS step keep ds ρ' σ' Φ
    | .cont ρ' σ'=>keep σ'∧forS step keep ds ρ' σ' Φ
    | .brk ρ' σ'=>Φ (.next ρ' σ')
    | .ret d' σ'=>Φ (.ret d' σ')
noncomputable def compS (step:D→Store→(Option D→Store→Prop)→Prop) (keep:Store→Prop):List D→Store→List D→(List D→Store→Prop)→Prop
  | [],σ,acc,Ψ=>Ψ acc σ
  | d::ds,σ,acc,Ψ=>step d σ fun o σ'=>keep σ'∧compS step keep ds σ' (acc++o.toList) Ψ
noncomputable def onlyGo (l:List Nat):Nat→PEnv→PEnv
  | _,[]=>[]
  | i,d::r=>(if l.contains i then d else Option.none)::onlyGo l (i+1) r
noncomputable def PEnv.only (ρ:PEnv) (l:List Nat):PEnv:=onlyGo l 0 ρ
structure Exs where
  x:Addr→Store→Prop
  cur:Option Addr
noncomputable def noX:Exs:=⟨fun _ _=>False,Option.none⟩
noncomputable abbrev Spec:=List D→Store→(D→Store→Prop)→(Addr→Store→Prop)→Prop
noncomputable abbrev ETr:=PEnv→Store→(D→Store→Prop)→Prop
noncomputable abbrev TTr:=PEnv→Store→(Bool→Store→Prop)→Prop
structure VT where
  v:ETr
  t:TTr
noncomputable def VT.of (v:ETr):VT:=⟨v,fun ρ σ Φ=>v ρ σ fun d σ'=>truthS d σ' Φ⟩
noncomputable def bopV (op:BoolOp):List VT→ETr
  | [],_,_,_=>False
  | [x],ρ,σ,Φ=>x.v ρ σ Φ
  | x::y::r,ρ,σ,Φ=>x.v ρ σ fun d σ'=>truthS d σ' fun b σ''=>match op with
    | .And=>(b=false→Φ d σ'')∧(b=true→bopV op (y::r) ρ σ'' Φ)
    | .Or=>(b=true→Φ d σ'')∧(b=false→bopV op (y::r) ρ σ'' Φ)
noncomputable def bopT (op:BoolOp):List VT→TTr
  | [],_,σ,Φ=>Φ (op == .And) σ
  | x::r,ρ,σ,Φ=>x.t ρ σ fun b σ'=>match op with
    | .And=>(b=false→Φ false σ')∧(b=true→bopT op r ρ σ' Φ)
    | .Or=>(b=true→Φ true σ')∧(b=false→bopT op r ρ σ' Φ)
noncomputable def argsV:List VT→PEnv→Store→(List D→Store→Prop)→Prop
  | [],_,σ,Φ=>Φ [] σ
  | x::r,ρ,σ,Φ=>x.v ρ σ fun d σ'=>argsV r ρ σ' fun ds σ''=>Φ (d::ds) σ''
noncomputable def ifsT:List VT→TTr
  | [],_,σ,Φ=>Φ true σ
  | x::r,ρ,σ,Φ=>x.t ρ σ fun b σ'=>(b=true→ifsT r ρ σ' Φ)∧(b=false→Φ false σ')
noncomputable def rangeD2 (a b:Int):List D:=(List.range (b - a).toNat).map fun (i:Nat)=>D.int (a+i)
noncomputable def newS (C:Nat) (Sp:Spec) (ds:List D) (σ:Store) (Φ:D→Store→Prop) (X:Addr→Store→Prop):Prop:=
  ∀ a dx,freshIn σ a→freshIn σ dx→a≠dx→Sp (.obj a::ds) (σ.set a (.inst C dx [])) (fun d σ'=>d = .none∧Φ (.obj a) σ') X
noncomputable def rangeD (n:Int):List D:=(List.range n.toNat).map fun (i:Nat)=>D.int i
mutual
noncomputable def vc (S:Nat→Spec) (X:Exs):PE→VT
  | .var i _ => .of fun ρ σ Φ=>match ρ.at i with
    | some d=>Φ d σ
    | Option.none=>False
  | .cint i _ => .of fun _ σ Φ=>Φ (.int i) σ
  | .cnone _ => .of fun _ σ Φ=>Φ .none σ
  | .cbool b _ => .of fun _ σ Φ=>Φ (.bool b) σ
  | .cstr x _ => .of fun _ σ Φ=>Φ (.str x) σ
  | .bin op l r _ => .of fun ρ σ Φ=>(vc S X l).v ρ σ fun a σ₁=>(vc S X r).v ρ σ₁ fun b σ₂=>binS op a b σ₂ Φ
  | .neg e _ => .of fun ρ σ Φ=>(vc S X e).v ρ σ fun d σ'=>match d with
    | .int i=>Φ (.int (-i)) σ'
    | _=>False
  | .not e _=>⟨fun ρ σ Φ=>(vc S X e).v ρ σ fun d σ'=>truthS d σ' fun b σ''=>Φ (.bool (!b)) σ'',fun ρ σ Φ=>(vc S X e).t ρ σ fun b σ'=>Φ (!b) σ'⟩
  | .bop op es _=>⟨bopV op (vcL S X es),bopT op (vcL S X es)⟩
  | .cmp op l r _ => .of fun ρ σ Φ=>(vc S X l).v ρ σ fun a σ₁=>(vc S X r).v ρ σ₁ fun b σ₂=>cmpS op a b σ₂ Φ
  | .cmp2 o₁ o₂ a b c _ => .of fun ρ σ Φ=>(vc S X a).v ρ σ fun x σ₁=>(vc S X b).v ρ σ₁ fun y σ₂=>cmpS o₁ x y σ₂ fun d σ₃=>
      truthS d σ₃ fun t σ₄=>(t=false→Φ (.bool false) σ₄)∧(t=true→(vc S X c).v ρ σ₄ fun z σ₅=>cmpS o₂ y z σ₅ Φ)
  | .call g _ args _ => .of fun ρ σ Φ=>argsV (vcL S X args) ρ σ fun ds σ'=>S g ds σ' Φ X.x
  | .bi b m _ _ args _ => .of fun ρ σ Φ=>argsV (vcL S X args) ρ σ fun ds σ'=>biS b m ds σ' Φ
  | .isi2 e _ _ _ _ _ _ _ _ _ => .of fun ρ σ Φ=>(vc S X e).v ρ σ fun d σ'=>∃ t,ltS d σ'=some t∧Φ (.bool t) σ'
  | .isx _ _ cs os _ _ _ _ _ => .of fun _ σ Φ=>exS cs os X.cur fun t=>Φ (.bool t) σ
  | .isi e ty _ _ _ _ _ => .of fun ρ σ Φ=>(vc S X e).v ρ σ fun d σ'=>∃ t,tyS ty d σ'=some t∧Φ (.bool t) σ'
  | .sub o i _ => .of fun ρ σ Φ=>(vc S X o).v ρ σ fun a σ₁=>(vc S X i).v ρ σ₁ fun b σ₂=>subS a b σ₂ Φ
  | .slc m o lo hi _ _ => .of fun ρ σ Φ=>(vc S X o).v ρ σ fun a σ₁=>vcO S X lo ρ σ₁ fun l σ₂=>vcO S X hi ρ σ₂ fun h σ₃=>slcS m a l h σ₃ Φ
  | .list m es _ => .of fun ρ σ Φ=>argsV (vcL S X es) ρ σ fun ds σ'=>Nat.ble ds.length small=true∧mkS m ds σ' Φ
  | .tup es _ _ => .of fun ρ σ Φ=>argsV (vcL S X es) ρ σ fun ds σ'=>Nat.ble ds.length small=true∧Φ (.tuple ds) σ'
  | .mmd mx _ _ e _ _ _ => .of fun ρ σ Φ=>(vc S X e).v ρ σ fun d σ'=>mmS mx d σ' Φ
  | .sset _ _ _ _ e _ _ => .of fun ρ σ Φ=>(vc S X e).v ρ σ fun d σ'=>ssetS d σ' Φ
  | .app o _ e _ => .of fun ρ σ Φ=>(vc S X o).v ρ σ fun a σ₁=>isML a σ₁∧(vc S X e).v ρ σ₁ fun b σ₂=>appS a b σ₂ Φ
  | .gint _ i _ => .of fun _ σ Φ=>Φ (.int i) σ
  | .intb e _ _ _ => .of fun ρ σ Φ=>(vc S X e).v ρ σ fun d σ'=>truthS d σ' fun b σ''=>Φ (.int (if b then 1 else 0)) σ''
  | .lset e _ _ _ _ _ _ => .of fun ρ σ Φ=>(vc S X e).v ρ σ fun d σ'=>lsetS d σ' Φ
  | .attr C o name _ => .of fun ρ σ Φ=>(vc S X o).v ρ σ fun d σ'=>attrS C name d σ' Φ
  | .meth C g o name _ args _ => .of fun ρ σ Φ=>(vc S X o).v ρ σ fun d σ₁=>instS C name d σ₁∧argsV (vcL S X args) ρ σ₁ fun ds σ₂=>S g (d::ds) σ₂ Φ X.x
  | .new C gi _ _ args _ => .of fun ρ σ Φ=>argsV (vcL S X args) ρ σ fun ds σ₁=>newS C (S gi) ds σ₁ Φ X.x
  | .lm k o _ args _ => .of fun ρ σ Φ=>(vc S X o).v ρ σ fun d σ₁=>lmOk k d σ₁∧argsV (vcL S X args) ρ σ₁ fun ds σ₂=>lmS k d ds σ₂ Φ
  | .dct _ => .of fun _ σ Φ=>∀ a,freshIn σ a→Φ (.obj a) (σ.set a (.mdict []))
  | .subd o i _ => .of fun ρ σ Φ=>(vc S X o).v ρ σ fun a σ₁=>(vc S X i).v ρ σ₁ fun b σ₂=>subdS a b σ₂ Φ
  | .comp m elt x _ it ifs _ fr _ => .of fun ρ σ Φ=>vcI S X it ρ σ fun d ds σ₁=>ds.length≤small∧
      compS (fun e σ' K=>ifsT (vcL S noX ifs) ((ρ.only fr).put x e) σ' fun b σ''=>(b=true→(vc S noX elt).v ((ρ.only fr).put x e) σ'' fun r σ₃=>K (some r) σ₃)∧(b=false→K Option.none σ'')) (keepS d ds) ds σ₁ []
        fun out σ₂=>mkS m out σ₂ Φ
noncomputable def vcL (S:Nat→Spec) (X:Exs):List PE→List VT
  | []=>[]
  | e::r=>vc S X e::vcL S X r
noncomputable def vcO (S:Nat→Spec) (X:Exs):Option PE→PEnv→Store→(Option D→Store→Prop)→Prop
  | Option.none,_,σ,Φ=>Φ Option.none σ
  | some e,ρ,σ,Φ=>(vc S X e).v ρ σ fun d σ'=>Φ (some d) σ'
noncomputable def vcI (S:Nat→Spec) (X:Exs):IT→PEnv→Store→(D→List D→Store→Prop)→Prop
  | .of e,ρ,σ,Φ=>(vc S X e).v ρ σ fun d σ'=>∃ ds,asL σ' d=some ds∧Φ d ds σ'
  | .range _ _ e _,ρ,σ,Φ=>(vc S X e).v ρ σ fun d σ'=>match d with
    | .int n=>n≤small ∧ -small≤n∧Φ .none (rangeD n) σ'
    | _=>False
  | .range2 _ _ a b _,ρ,σ,Φ=>(vc S X a).v ρ σ fun d σ₁=>(vc S X b).v ρ σ₁ fun e σ₂=>match d,e with
    | .int x,.int y => -small≤x∧x≤small ∧ -small≤y∧y≤small∧Φ .none (rangeD2 x y) σ₂
    | _,_=>False
end
noncomputable def retO (Φ:Res→Prop):Res→Prop
  | .ret d σ=>Φ (.ret d σ)
  | _=>False
mutual
noncomputable def vcS (S:Nat→Spec) (X:Exs):PS→PEnv→Store→(Res→Prop)→Prop
  | .assign x _ e _,ρ,σ,Φ=>(vc S X e).v ρ σ fun d σ'=>Φ (.next (ρ.put x d) σ')
  | .expr e _,ρ,σ,Φ=>(vc S X e).v ρ σ fun _ σ'=>Φ (.next ρ σ')
  | .ite t b o _,ρ,σ,Φ=>(vc S X t).t ρ σ fun c σ'=>(c=true→vcSs S X b ρ σ' Φ)∧(c=false→vcSs S X o ρ σ' Φ)
  | .loop x _ it b _,ρ,σ,Φ=>vcI S X it ρ σ fun d ds σ₁=>forS (fun e ρ' σ' Ψ=>vcSs S X b (ρ'.put x e) σ' Ψ) (keepS d ds) ds ρ σ₁ Φ
  | .while t b _,ρ,σ,Φ=>∃ (J:Nat→PEnv→Store→Prop) (n:Nat),J n ρ σ∧∀ n ρ σ,J n ρ σ→(vc S X t).t ρ σ fun c σ'=>
      (c=true→vcSs S X b ρ σ' fun r=>match r with
        | .next ρ'' σ''=>∃ m,m<n∧J m ρ'' σ''
        | .cont ρ'' σ''=>∃ m,m<n∧J m ρ'' σ''
        | .brk ρ'' σ''=>Φ (.next ρ'' σ'')
        | .ret d σ''=>Φ (.ret d σ''))∧(c=false→Φ (.next ρ σ'))
  | .ret e _,ρ,σ,Φ=>(vc S X e).v ρ σ fun d σ'=>Φ (.ret d σ')
  | .sattr C o name _ e _,ρ,σ,Φ=>(vc S X e).v ρ σ fun d σ₁=>(vc S X o).v ρ σ₁ fun x σ₂=>setS C name x d σ₂ fun σ₃=>Φ (.next ρ σ₃)
  | .ssub o i _ e _,ρ,σ,Φ=>(vc S X e).v ρ σ fun d σ₁=>(vc S X o).v ρ σ₁ fun x σ₂=>(vc S X i).v ρ σ₂ fun k σ₃=>stoS x k d σ₃ fun σ₄=>Φ (.next ρ σ₄)
  | .raise C _ _ _ _ _ _,_,σ,_=>X.x C σ
  | .try b hs _,ρ,σ,Φ=>vcSs S ⟨fun C σ'=>vcHs S X hs ρ Φ C σ',Option.none⟩ b ρ σ Φ
noncomputable def vcHs (S:Nat→Spec) (X:Exs):List HD→PEnv→(Res→Prop)→Addr→Store→Prop
  | [],_,_,_,_=>False
  | .mk cs os _ _ b _::r,ρ,Φ,C,σ=>if cs.contains C then vcSs S noX b ρ σ Φ else os.contains C=true∧vcHs S X r ρ Φ C σ
  | .as cs os _ _ x b _::r,ρ,Φ,C,σ=>if cs.contains C then Nat.blt x ρ.length=true∧ρ.at x=Option.none∧vcSs S ⟨fun _ _=>False,some C⟩ b ρ σ (retO Φ) else os.contains C=true∧vcHs S X r ρ Φ C σ
noncomputable def vcSs (S:Nat→Spec) (X:Exs):List PS→PEnv→Store→(Res→Prop)→Prop
  | [],ρ,σ,Φ=>Φ (.next ρ σ)
  | s::r,ρ,σ,Φ=>vcS S X s ρ σ fun res=>match res with
    | .next ρ' σ'=>vcSs S X r ρ' σ' Φ
    | .ret d σ'=>Φ (.ret d σ')
    | .brk ρ' σ'=>Φ (.brk ρ' σ')
    | .cont ρ' σ'=>Φ (.cont ρ' σ')
end
noncomputable def WPv (c:Cx) (A:Around) (nm:Nat→Str) (vs:List Nat) (env:Env) (ρ:PEnv) (σ:Store) (t:Sem Value) (Φ:D→Store→Prop):Prop:=
  ∀ P s,Good c nm vs env ρ σ P s→∀ (Q:Value→Shared→Prop),
    (∀ v d σ' s',Φ d σ'→Step c.W noF σ σ' s s'→StoreOk σ' P s'.heap→Rep (nd σ' P) s'.heap d v→Q v s')→wpAny c.M A t Q c.E s
noncomputable def WPb (c:Cx) (A:Around) (nm:Nat→Str) (vs:List Nat) (env:Env) (ρ:PEnv) (σ:Store) (t:Sem Bool) (Φ:Bool→Store→Prop):Prop:=
  ∀ P s,Good c nm vs env ρ σ P s→∀ (Q:Bool→Shared→Prop),
    (∀ b σ' s',Φ b σ'→Step c.W noF σ σ' s s'→StoreOk σ' P s'.heap→Q b s')→wpAny c.M A t Q c.E s
noncomputable def WPl (c:Cx) (A:Around) (nm:Nat→Str) (vs:List Nat) (env:Env) (ρ:PEnv) (σ:Store) (t:Sem (List Value)) (Φ:List D→Store→Prop):Prop:=
  ∀ P s,Good c nm vs env ρ σ P s→∀ (Q:List Value→Shared→Prop),
    (∀ v d σ' s',Φ d σ'→Step c.W noF σ σ' s s'→StoreOk σ' P s'.heap→RepL (nd σ' P) s'.heap d v→Q v s')→wpAny c.M A t Q c.E s
theorem Stay.of_keep {N:Addr→Prop} {h h':Heap} (k:∀ a o,h.get? a=some o→h'.get? a=some o):Stay N N h h':=fun a o hN ho _=>⟨k a o ho,hN⟩
theorem MRep.stay {σ σ':Store} {P P':Addr→Prop} {h h':Heap} (k:Stay (nd σ P) (nd σ' P') h h') {a:Addr} {mo:MObj} (kd:∀ b o,(b=a∨∃ C fs,mo = .inst C b fs)→h.get? b=some o→h'.get? b=some o)
    (x:MRep σ P h a mo):MRep σ' P' h' a mo:=by
  cases mo with
  | mlist ds=>
    obtain ⟨vs,⟨n,ho⟩,hl⟩:=x
    exact ⟨vs,⟨n,kd a _ (.inl rfl) ho⟩,RepL.stay k ds _ hl⟩
  | inst C dx fs=>
    obtain ⟨n,es,vs,h1,h2,h3,h4,h5,h6⟩:=x
    exact ⟨n,es,vs,kd a _ (.inl rfl) h1,kd dx _ (.inr ⟨C,fs,rfl⟩) h2,h3,h4,RepL.stay k _ _ h5,h6⟩
  | mdict kvs=>
    obtain ⟨n,es,vs,h1,h2,h3,h4⟩:=x
    exact ⟨n,es,vs,kd a _ (.inl rfl) h1,h2,RepL.stay k _ _ h3,h4⟩
theorem StoreOk.keeps {σ P h h'} (x:StoreOk σ P h) (k:∀ a o,h.get? a=some o→h'.get? a=some o):StoreOk σ P h':=
  ⟨fun a mo e=>(x.rep a mo e).stay (Stay.of_keep k) (fun b o _ ho=>k b o ho),x.apart,x.free⟩
theorem StoreOk.alive {σ P h} (x:StoreOk σ P h) {a:Addr} (hd:dom σ a):∃ o,h.get? a=some o:=by
  rcases hd with h1 | ⟨y,C,fs,h1⟩
  · cases e:σ a with
    | none=>exact absurd e h1
    | some mo=>
      have:=x.rep a mo e
      cases mo with
      | mlist ds=>obtain ⟨vs,⟨n,ho⟩,_⟩:=this; exact ⟨_,ho⟩
      | inst C dx fs=>obtain ⟨n,es,vs,h1,_⟩:=this; exact ⟨_,h1⟩
      | mdict kvs=>obtain ⟨n,es,vs,h1,_⟩:=this; exact ⟨_,h1⟩
  · obtain ⟨n,es,vs,_,h2,_⟩:=x.rep y _ h1
    exact ⟨_,h2⟩
theorem keeps_toks (s:Shared) (t:Nat):Keeps s { s with toks:=t }:=⟨s.heap,t,rfl,fun _ _ e=>e⟩
theorem keeps_push (s:Shared) (o:Obj) (t:Nat):Keeps s { s with heap:=s.heap.push o,toks:=t }:=⟨_,t,rfl,fun _ _ e=>Heap.get?_push_of_some _ e⟩
theorem keeps_push' (s:Shared) (o:Obj):Keeps s { s with heap:=s.heap.push o }:=⟨_,s.toks,rfl,fun _ _ e=>Heap.get?_push_of_some _ e⟩
theorem keeps_refl (s:Shared):Keeps s s:=⟨s.heap,s.toks,rfl,fun _ _ e=>e⟩
theorem keeps_heap {s s':Shared} (k:Keeps s s'):∀ a o,s.heap.get? a=some o→s'.heap.get? a=some o:=by obtain ⟨h',tk,rfl,h⟩:=k; exact h
theorem get?_size_none (h:Heap):h.get? h.objs.size=none:=by
  cases e:h.get? h.objs.size with
  | none=>rfl
  | some o=>exact absurd (Heap.lt_size e) (Nat.lt_irrefl _)
theorem Good.nd_of_none {c nm vs env ρ σ P s} (g:Good c nm vs env ρ σ P s) {a:Addr} (ha:s.heap.get? a=none):nd σ P a:=by
  refine ⟨fun hd=>?_,fun hp=>?_⟩
  · obtain ⟨o,ho⟩:=g.st.alive hd
    rw [ha] at ho; cases ho
  · obtain ⟨o,ho⟩:=g.prot _ hp
    rw [ha] at ho; cases ho
theorem fin_keeps {c nm vs env ρ σ P s s'} {Q:Value→Shared→Prop} {Φ:D→Store→Prop} {d:D} {v:Value} (g:Good c nm vs env ρ σ P s)
    (hQ:∀ v d σ' s',Φ d σ'→Step c.W noF σ σ' s s'→StoreOk σ' P s'.heap→Rep (nd σ' P) s'.heap d v→Q v s') (hΦ:Φ d σ) (k:Keeps s s') (hr:Rep (nd σ P) s'.heap d v):Q v s':=
  hQ v d σ s' hΦ (Step.of_keeps k) (g.st.keeps (keeps_heap k)) hr
theorem rep_int {N h i t}:Rep N h (.int i) (.int i t):=by simp [Rep]
theorem rep_bool {N h b}:Rep N h (.bool b) (.bool b):=by simp [Rep]
theorem rep_none {N h}:Rep N h .none .none:=by simp [Rep]
theorem rep_str {N h x t}:Rep N h (.str x) (.str x t):=by simp [Rep]
theorem Rep.keeps {N h h' d v} (x:Rep N h d v) (k:∀ a o,h.get? a=some o→h'.get? a=some o):Rep N h' d v:=Rep.stay (Stay.of_keep k) d v x
theorem RepL.keeps {N h h' d v} (x:RepL N h d v) (k:∀ a o,h.get? a=some o→h'.get? a=some o):RepL N h' d v:=RepL.stay (Stay.of_keep k) d v x
section
variable {c:Cx} {A:Around} {nm:Nat→Str} {vs:List Nat} {env:Env} {ρ:PEnv} {σ:Store}
theorem R_var {i:Nat} {p:Pos} {Φ:D→Store→Prop} {d:D} (ok:EnvOk nm vs env) (hd:ρ.at i=some d) (h:Φ d σ):WPv c A nm vs env ρ σ (eval (.Name (nm i) p) env) Φ:=by
  intro P s g Q hQ
  obtain ⟨hi,v,hv,hr⟩:=g.var i d hd
  refine wpAny_Name ?_ (ok.dbg i hi)
  have fin:Q v s:=fin_keeps g hQ h (keeps_refl s) hr
  rcases hv with ⟨hk,m,hn,hm⟩ | ⟨hk,ca,hc,hcell⟩
  · exact wpAny_loadName_local ok.kind hk hn hm fin
  · exact wpAny_loadName_cell ok.kind hk hc hcell fin
theorem R_int {i:Int} {k:Nat} {p:Pos} {Φ:D→Store→Prop} (h:Φ (.int i) σ):WPv c A nm vs env ρ σ (eval (.Constant (.int i) k p) env) Φ:=fun _ s g _ hQ=>
  wpAny_Constant_int (fin_keeps g hQ h (keeps_toks s _) rep_int)
theorem R_none {k:Nat} {p:Pos} {Φ:D→Store→Prop} (h:Φ .none σ):WPv c A nm vs env ρ σ (eval (.Constant .none k p) env) Φ:=fun _ s g _ hQ=>
  wpAny_Constant_none (fin_keeps g hQ h (keeps_refl s) rep_none)
theorem R_bool {b:Bool} {k:Nat} {p:Pos} {Φ:D→Store→Prop} (h:Φ (.bool b) σ):WPv c A nm vs env ρ σ (eval (.Constant (.bool b) k p) env) Φ:=fun _ s g _ hQ=>
  wpAny_Constant_bool (fin_keeps g hQ h (keeps_refl s) rep_bool)
theorem R_str {x:Str} {k:Nat} {p:Pos} {Φ:D→Store→Prop} (h:Φ (.str x) σ):WPv c A nm vs env ρ σ (eval (.Constant (.str x) k p) env) Φ:=fun _ s g _ hQ=>
  wpAny_Constant_str (fin_keeps g hQ h (keeps_toks s _) rep_str)
theorem R_glob {x:Str} {p:Pos} {v:Value} (ok:EnvOk nm vs env) (hx:env.kindOf x=some .globalImplicit) (hd:(x==("__debug__" : Str))=false) (hv:c.glob x=some v)
    {P s} (g:Good c nm vs env ρ σ P s) {Q:Value→Shared→Prop} {E:Value→Shared→Prop} (hQ:Q v s):wpAny c.M A (eval (.Name x p) env) Q E s:=by
  refine Calls.Name_function_global ok.kind hx ?_ hd
  have hg:s.heap.Ns env.globals c.mg:=by rw [ok.globals]; exact c.hg.keeps g.base
  have hb:s.heap.Ns env.builtins c.mb:=by rw [ok.builtins]; exact c.hb.keeps g.base
  unfold Bx.glob at hv
  cases hm:c.mg x with
  | some u=>rw [hm] at hv; cases hv; exact Calls.loadGlobal_global hg hm hQ
  | none=>rw [hm] at hv; exact Calls.loadGlobal_builtin hg hm hb hv hQ
set_option tactic.hygienic true in
theorem R_two {t₁ t₂:Sem Value} {Ψ₁:D→Store→Prop} {k:Value→Value→Shared→Prop} {P s} (g:Good c nm vs env ρ σ P s) {Φ:D→D→Store→Prop}
    (h₁:WPv c A nm vs env ρ σ t₁ Ψ₁) (h₂:∀ d σ',Ψ₁ d σ'→WPv c A nm vs env ρ σ' t₂ (Φ d))
    (hk:∀ v₁ v₂ d₁ d₂ σ' s',Φ d₁ d₂ σ'→Step c.W noF σ σ' s s'→Good c nm vs env ρ σ' P s'→Rep (nd σ' P) s'.heap d₁ v₁→Rep (nd σ' P) s'.heap d₂ v₂→k v₁ v₂ s') :
    wpAny c.M A t₁ (fun v₁ s₁=>wpAny c.M A t₂ (fun v₂ s₂=>k v₁ v₂ s₂) c.E s₁) c.E s:=by
  refine h₁ P s g _ fun v₁ d₁ σ₁ s₁ a₁ st₁ ok₁ r₁=>?_
  have g₁:=g.next st₁ ok₁
  refine h₂ d₁ σ₁ a₁ P s₁ g₁ _ fun v₂ d₂ σ₂ s₂ a₂ st₂ ok₂ r₂=>?_
  exact hk v₁ v₂ d₁ d₂ σ₂ s₂ a₂ (st₁.trans st₂) (g₁.next st₂ ok₂) (Rep.stay (st₂.stay g.wp) _ _ r₁) r₂
theorem truthS_sound {d:D} {v:Value} {Φ:Bool→Store→Prop} {P s} {Q:Bool→Shared→Prop} {E:Value→Shared→Prop} (h:truthS d σ Φ) (hr:Rep (nd σ P) s.heap d v) (hQ:∀ b,Φ b σ→Q b s):wpAny c.M A (truthy v) Q E s:=by
  cases d <;> simp only [truthS] at h
  simp only [Rep] at hr
  subst hr
  exact wpAny_truthy_bool (hQ _ h)
end
theorem isInt_val {k:Int} {v:Value} (h:Value.isInt k v=true):∃ t,v = .int k t:=Value.isInt_shape h
theorem pairs_of_entI {prog:Program} {w:World}:∀ {es:List DictEntry} {ks:List Int} {us:List Value},EntI es ks us→Pairs (intKind prog w) es (ks.zip us)∧(∀ e∈es,∃ k,(intKind prog w).is k e.key=true∧e.hash=(intKind prog w).hash k)∧us.length=ks.length
  | [],[],[],_=>⟨.nil,fun _ h=>by simp at h,rfl⟩
  | [],[],_::_,h=>by simp [EntI] at h
  | [],_::_,_,h=>by simp [EntI] at h
  | _::_,[],_,h=>by simp [EntI] at h
  | _::_,_::_,[],h=>by simp [EntI] at h
  | e::es,k::ks,u::us,h=>by
    simp only [EntI] at h
    obtain ⟨⟨t,h1⟩,h2,h3,h4⟩:=h
    obtain ⟨p1,p2,p3⟩:=pairs_of_entI (prog:=prog) (w:=w) h4
    have his:(intKind prog w).is k e.key=true:=by rw [h1]; exact intKind_is prog w k t
    refine ⟨.cons his h3 p1,fun x hx=>?_,by simp [p3]⟩
    rcases List.mem_cons.mp hx with rfl | hx
    · exact ⟨k,his,h2⟩
    · exact p2 x hx
theorem entI_of_pairs {prog:Program} {w:World}:∀ {es:List DictEntry} {ks:List Int} {us:List Value},us.length=ks.length→Pairs (intKind prog w) es (ks.zip us)→(∀ e∈es,∃ k,(intKind prog w).is k e.key=true∧e.hash=(intKind prog w).hash k)→EntI es ks us
  | es,[],[],_,p,_=>by cases p; simp [EntI]
  | es,[],_::_,h,_,_=>by simp at h
  | es,_::_,[],h,_,_=>by simp at h
  | es,k::ks,u::us,h,p,hk=>by
    rw [List.zip_cons_cons] at p
    cases p with
    | @cons e kv es kvs h1 h2 h3=>
      simp only [EntI]
      obtain ⟨t,ht⟩:=isInt_val (k:=k) h1
      refine ⟨⟨t,ht⟩,?_,h2,entI_of_pairs (by simpa using h) h3 fun x hx=>hk x (List.mem_cons_of_mem _ hx)⟩
      obtain ⟨k',q1,q2⟩:=hk e List.mem_cons_self
      have:k'=k:=(intKind prog w).inj e.key k' k q1 h1
      subst this; exact q2
theorem map_fst_zip' {ks:List Int} {us:List Value} (h:us.length=ks.length):(ks.zip us).map (·.1)=ks:=List.map_fst_zip (Nat.le_of_eq h.symm)
theorem dictOf_of_mrep {prog:Program} {w:World} {σ:Store} {P:Addr→Prop} {h:Heap} {a:Addr} {kvs:List (Int×D)} (x:MRep σ P h a (.mdict kvs)) :
    ∃ us,us.length=kvs.length∧h.DictOf (intKind prog w) a ((kvs.map (·.1)).zip us)∧RepL (nd σ P) h (kvs.map (·.2)) us∧a≠sysModules∧(kvs.map (·.1)).Nodup∧∃ o,h.get? a=some o∧o.dict=none:=by
  obtain ⟨n,es,us,h1,h2,h3,h4,h5⟩:=x
  obtain ⟨p1,p2,p3⟩:=pairs_of_entI (prog:=prog) (w:=w) h2
  refine ⟨us,by simpa using p3,⟨_,es.toArray,n,h1,⟨rfl,rfl,rfl⟩,rfl,fun e he=>p2 e (by simpa using he),by simpa using p1,?_⟩,h3,h5,h4,_,h1,rfl⟩
  rw [map_fst_zip' p3]; exact h4
theorem mrep_of_dictOf {prog:Program} {w:World} {σ:Store} {P:Addr→Prop} {h:Heap} {a:Addr} {kvs:List (Int×D)} {us:List Value} (hd:h.DictOf (intKind prog w) a ((kvs.map (·.1)).zip us)) (hr:RepL (nd σ P) h (kvs.map (·.2)) us) (ha:a≠sysModules) :
    MRep σ P h a (.mdict kvs):=by
  obtain ⟨⟨cls,dd,data,sl⟩,es,ep,ho,⟨hc1,hc2,hc3⟩,hdat,hk,hp,hn⟩:=hd
  simp only at hc1 hc2 hc3 hdat
  subst hc1 hc2 hc3 hdat
  have hl:us.length=(kvs.map (·.1)).length:=by rw [hr.length]; simp
  refine ⟨ep,es.toList,us,by simpa using ho,entI_of_pairs hl hp fun e he=>hk e (by simpa using he),hr,?_,ha⟩
  rwa [map_fst_zip' hl] at hn
section
variable {N:Addr→Prop} {h:Heap}
theorem zip_get {k:Int} {d:D}:∀ {kvs:List (Int×D)} {us:List Value},RepL N h (kvs.map (·.2)) us→getK k kvs=some d→∃ v,valueAt ((kvs.map (·.1)).zip us) k=some v∧Rep N h d v
  | [],us,_,e=>by cases e
  | (j,x)::r,us,hr,e=>by
    simp only [List.map_cons,RepL] at hr
    obtain ⟨v,us',rfl,h1,h2⟩:=hr
    unfold getK at e
    simp only [List.map_cons,List.zip_cons_cons,valueAt,List.find?_cons]
    by_cases hj:j=k
    · rw [if_pos hj] at e; cases e
      simp only [hj,decide_true]
      exact ⟨v,rfl,h1⟩
    · rw [if_neg hj] at e
      simp only [hj,decide_false]
      exact zip_get h2 e
theorem zip_none {k:Int}:∀ {kvs:List (Int×D)} {us:List Value},getK k kvs=Option.none→valueAt ((kvs.map (·.1)).zip us) k=none
  | [],us,_=>rfl
  | (j,x)::r,[],_=>rfl
  | (j,x)::r,u::us,e=>by
    unfold getK at e
    by_cases hj:j=k
    · rw [if_pos hj] at e; cases e
    · rw [if_neg hj] at e
      simp only [List.map_cons,List.zip_cons_cons,valueAt,List.find?_cons,hj,decide_false]
      exact zip_none e
theorem zip_isSome {k:Int} {kvs:List (Int×D)} {us:List Value} (hr:RepL N h (kvs.map (·.2)) us):(valueAt ((kvs.map (·.1)).zip us) k).isSome=(getK k kvs).isSome:=by
  cases e:getK k kvs with
  | none=>rw [zip_none e]; rfl
  | some d=>obtain ⟨v,h1,_⟩:=zip_get hr e; rw [h1]; rfl
noncomputable def putR (k:Int) (v:Value):List (Int×Value)→List (Int×Value)
  | []=>[(k,v)]
  | (j,x)::r=>if j=k then (j,v)::r else (j,x)::putR k v r
theorem stored_putR (k:Int) (v:Value):∀ (l:List (Int×Value)),(l.map (·.1)).Nodup→stored l k v=putR k v l
  | [],_=>rfl
  | (j,x)::r,hn=>by
    simp only [List.map_cons,List.nodup_cons] at hn
    unfold putR
    by_cases hj:j=k
    · rw [if_pos hj]
      subst hj
      unfold stored
      rw [if_pos (by simp),List.map_cons,if_pos rfl,map_store_of_not_mem r _ v hn.1]
    · rw [if_neg hj,← stored_putR k v r hn.2]
      unfold stored
      by_cases ha:(r.any fun kv=>decide (kv.1=k))=true
      · rw [if_pos ha,if_pos (by simp only [List.any_cons,ha,Bool.or_true]),List.map_cons,if_neg hj]
      · rw [if_neg ha,if_neg (by simp only [List.any_cons,hj,decide_false,Bool.false_or]; exact ha),List.cons_append]
theorem zip_putR {k:Int} {d:D} {v:Value} (hd:Rep N h d v):∀ {kvs:List (Int×D)} {us:List Value},RepL N h (kvs.map (·.2)) us→
    ∃ us',RepL N h ((putK k d kvs).map (·.2)) us'∧putR k v ((kvs.map (·.1)).zip us)=((putK k d kvs).map (·.1)).zip us'
  | [],us,hr=>⟨[v],RepL.one hd,rfl⟩
  | (j,x)::r,us,hr=>by
    simp only [List.map_cons,RepL] at hr
    obtain ⟨u,us',rfl,h1,h2⟩:=hr
    unfold putK
    simp only [List.map_cons,List.zip_cons_cons,putR]
    by_cases hj:j=k
    · rw [if_pos hj,if_pos hj]
      exact ⟨v::us',RepL.cons hd h2,rfl⟩
    · rw [if_neg hj,if_neg hj]
      obtain ⟨us'',q1,q2⟩:=zip_putR hd h2
      exact ⟨u::us'',RepL.cons h1 q1,by rw [q2]; rfl⟩
theorem zip_del {k:Int}:∀ {kvs:List (Int×D)} {us:List Value},RepL N h (kvs.map (·.2)) us→
    ∃ us',RepL N h ((delK k kvs).map (·.2)) us'∧without ((kvs.map (·.1)).zip us) k=((delK k kvs).map (·.1)).zip us'
  | [],us,hr=>⟨[],RepL.nil,rfl⟩
  | (j,x)::r,us,hr=>by
    simp only [List.map_cons,RepL] at hr
    obtain ⟨u,us',rfl,h1,h2⟩:=hr
    obtain ⟨us'',q1,q2⟩:=zip_del (k:=k) h2
    unfold delK without at *
    simp only [List.map_cons,List.zip_cons_cons,List.filter_cons]
    by_cases hj:j=k
    · rw [if_neg (by simp [hj]),if_neg (by simp [hj])]
      exact ⟨us'',q1,q2⟩
    · rw [if_pos (by simp [hj]),if_pos (by simp [hj])]
      exact ⟨u::us'',RepL.cons h1 q1,by rw [q2]; rfl⟩
end
theorem sizeLine_small:small≤sizeLine:=by decide
theorem small_63 {n:Nat} (h:n≤small):((n:Nat):Int)<2 ^ 63:=by unfold small at h; omega
theorem big_9000:10 ^ 50≤2 ^ 9000:=Nat.le_trans (by decide:10 ^ 50≤2 ^ 200) (Nat.pow_le_pow_right (by decide) (by decide))
theorem add_list_any {prog:Program} {w:World} {A:Around} {E:Value→Shared→Prop} {s:Shared} {l b:Addr} {its its2:Array Value} {Q:Value→Shared→Prop} (hl:s.heap.IsList l its) (hb:s.heap.IsList b its2)
    (h:Q (.ref s.heap.objs.size) { s with heap:=s.heap.push { cls := .type "list",data := .seq (its++its2) } }) (hsz:its.size+its2.size≤sizeLine):wpAny (model prog w) A (binaryOp .Add (.ref l) (.ref b)) Q E s:=by
  obtain ⟨⟨cls,dd,data,sl⟩,ho,hc,n,hd⟩:=id hl
  obtain ⟨⟨cls2,dd2,data2,sl2⟩,ho2,hc2,n2,hd2⟩:=id hb
  simp only at hc hd hc2 hd2
  subst hc hd hc2 hd2
  exact concat_meets ⟨_,ho,rfl⟩ ⟨_,ho2,rfl⟩ noFill_list_add seq_list_add PySem.F.slot_list_add PySem.F.entry_list_add (PySem.F.args_list_add_2 _ _) (list_addW l b its its2 n n2 dd dd2 sl sl2 hsz) ⟨ho,ho2,h⟩
section
variable {c:Cx} {A:Around} {nm:Nat→Str} {vs:List Nat} {env:Env} {ρ:PEnv} {σ:Store} {P:Addr→Prop} {s:Shared} {Q:Value→Shared→Prop} {E:Value→Shared→Prop} {Φ:D→Store→Prop}
theorem newList_rep (g:Good c nm vs env ρ σ P s) {ds:List D} {us:List Value} {h':Heap} (k:∀ a o,s.heap.get? a=some o→h'.get? a=some o) {a:Addr} (ha:s.heap.get? a=none) {n:Nat}
    (hn:∃ o,h'.get? a=some o∧o.cls = .type "list" ∧ o.data = .seq us.toArray n) (hr:RepL (nd σ P) s.heap ds us):nd σ P a∧Rep (nd σ P) h' (.list ds) (.ref a):=by
  have hN:nd σ P a:=g.nd_of_none ha
  obtain ⟨o,ho,hc,hd⟩:=hn
  refine ⟨hN,?_⟩
  simp only [Rep]
  exact ⟨a,us.toArray,rfl,hN,⟨o,ho,hc,n,hd⟩,by simpa using RepL.keeps hr k⟩
theorem dom_set {σ:Store} {a b:Addr} {ds:List D}:dom (σ.set a (.mlist ds)) b→dom σ b∨b=a:=by
  intro h
  rcases h with h | ⟨x,C,fs,h⟩
  · unfold Store.set at h
    by_cases e:b=a
    · exact .inr e
    · rw [if_neg e] at h; exact .inl (.inl h)
  · unfold Store.set at h
    by_cases e:x=a
    · rw [if_pos e] at h; cases h
    · rw [if_neg e] at h; exact .inl (.inr ⟨x,C,fs,h⟩)
theorem alloc_mut (g:Good c nm vs env ρ σ P s) {ds:List D} {us:List Value} {s':Shared} (k:Keeps s s') {a:Addr} (ha:s.heap.get? a=none) (hn:s'.heap.PlainList a us.toArray) (hr:RepL (nd σ P) s.heap ds us) :
    freshIn σ a∧Step c.W noF σ (σ.set a (.mlist ds)) s s'∧StoreOk (σ.set a (.mlist ds)) P s'.heap:=by
  have kh:=keeps_heap k
  have nda:¬ dom σ a:=fun hd=>by obtain ⟨o,ho⟩:=g.st.alive hd; rw [ha] at ho; cases ho
  have npa:¬ P a:=fun hp=>by obtain ⟨o,ho⟩:=g.prot _ hp; rw [ha] at ho; cases ho
  have hf:freshIn σ a:=⟨by
    cases e:σ a with
    | none=>rfl
    | some m=>exact absurd (Or.inl (by rw [e]; exact Option.some_ne_none m)) nda,fun x C fs e=>nda (.inr ⟨x,C,fs,e⟩)⟩
  have st:Stay (nd σ P) (nd (σ.set a (.mlist ds)) P) s.heap s'.heap:=fun b o hN ho _=>⟨kh b o ho,fun hd=>(dom_set hd).elim hN.1 (fun e=>by subst e; rw [ha] at ho; cases ho),hN.2⟩
  refine ⟨hf,Step.mk' (Step.of_keeps (W:=c.W) (F:=noF) (σ:=σ) k).same (fun b o e _ _=>kh b o e) (fun b o e=>⟨o,kh b o e⟩) (fun b hb=>(dom_set hb).imp id (fun e:b=a=>by rw [e]; exact ha)),⟨fun b mo e=>?_,fun x C dx fs e=>?_,fun b hb=>?_⟩⟩
  · unfold Store.set at e
    by_cases hb:b=a
    · rw [if_pos hb] at e
      cases e
      subst hb
      exact ⟨us.toArray,hn,by simpa using RepL.stay st _ _ hr⟩
    · rw [if_neg hb] at e
      exact (g.st.rep b mo e).stay st fun b' o _ ho=>kh b' o ho
  · unfold Store.set at e ⊢
    by_cases hx:x=a
    · rw [if_pos hx] at e; cases e
    · rw [if_neg hx] at e
      obtain ⟨h1,h2⟩:=g.st.apart x C dx fs e
      refine ⟨?_,fun y C' fs' e'=>?_⟩
      · rw [if_neg (fun q:dx=a=>hf.2 x C fs (q▸e))]; exact h1
      · by_cases hy:y=a
        · rw [if_pos hy] at e'; cases e'
        · rw [if_neg hy] at e'; exact h2 y C' fs' e'
  · rcases dom_set hb with h | h
    · exact g.st.free b h
    · subst h; exact npa
theorem fin_list (g:Good c nm vs env ρ σ P s) {m:Bool} {ds:List D} {us:List Value} {s':Shared} (hΦ:mkS m ds σ Φ) (hQ:∀ v d σ' s',Φ d σ'→Step c.W noF σ σ' s s'→StoreOk σ' P s'.heap→Rep (nd σ' P) s'.heap d v→Q v s')
    (k:Keeps s s') {a:Addr} (ha:s.heap.get? a=none) (hn:s'.heap.PlainList a us.toArray) (hr:RepL (nd σ P) s.heap ds us):Q (.ref a) s':=by
  unfold mkS at hΦ
  cases m with
  | false=>
    simp only [Bool.false_eq_true,if_false] at hΦ
    obtain ⟨n,ho⟩:=hn
    exact fin_keeps g hQ hΦ k (newList_rep g (keeps_heap k) ha ⟨_,ho,rfl,rfl⟩ hr).2
  | true=>
    simp only [if_true] at hΦ
    obtain ⟨hf,st,ok⟩:=alloc_mut g k ha hn hr
    exact hQ _ (.obj a) _ s' (hΦ a hf) st ok (by simp [Rep])
theorem fin_tuple (g:Good c nm vs env ρ σ P s) {ds:List D} {us:List Value} {s':Shared} (hΦ:Φ (.tuple ds) σ) (hQ:∀ v d σ' s',Φ d σ'→Step c.W noF σ σ' s s'→StoreOk σ' P s'.heap→Rep (nd σ' P) s'.heap d v→Q v s')
    (k:Keeps s s') {a:Addr} (ha:s.heap.get? a=none) (hn:s'.heap.IsTuple a us.toArray) (hr:RepL (nd σ P) s.heap ds us):Q (.ref a) s':=by
  refine fin_keeps g hQ hΦ k ?_
  simp only [Rep]
  exact ⟨a,us.toArray,rfl,g.nd_of_none ha,hn,by simpa using RepL.keeps hr (keeps_heap k)⟩
set_option tactic.hygienic true in
theorem asL_heap (ok:StoreOk σ P s.heap) {d:D} {v:Value} {xs:List D} (hr:Rep (nd σ P) s.heap d v) (e:asL σ d=some xs) :
    ∃ a us,v = .ref a∧(s.heap.IsList a us∨s.heap.IsTuple a us)∧RepL (nd σ P) s.heap xs us.toList:=by
  cases d <;> simp only [asL] at e <;> try cases e
  · simp only [Rep] at hr
    obtain ⟨a,us,h1,_,h2,h3⟩:=hr
    exact ⟨a,us,h1,.inr h2,h3⟩
  · simp only [Rep] at hr
    obtain ⟨a,us,h1,_,h2,h3⟩:=hr
    exact ⟨a,us,h1,.inl h2,h3⟩
  · rename_i a
    simp only [Rep] at hr
    cases h:σ a with
    | none=>rw [h] at e; cases e
    | some mo=>
      rw [h] at e
      cases mo with
      | mlist ds=>
        cases e
        obtain ⟨us,h1,h2⟩:=ok.rep a _ h
        exact ⟨a,us,hr,.inl h1.isList,h2⟩
      | inst C dx fs=>cases e
      | mdict kvs=>cases e
set_option tactic.hygienic true in
theorem asList_heap (ok:StoreOk σ P s.heap) {d:D} {v:Value} {xs:List D} (hr:Rep (nd σ P) s.heap d v) (e:asL σ d=some xs) (ht:isTuple d=false) :
    ∃ a us,v = .ref a∧s.heap.IsList a us∧RepL (nd σ P) s.heap xs us.toList:=by
  cases d <;> simp only [asL] at e <;> try cases e
  · cases ht
  · simp only [Rep] at hr
    obtain ⟨a,us,h1,_,h2,h3⟩:=hr
    exact ⟨a,us,h1,h2,h3⟩
  · rename_i a
    simp only [Rep] at hr
    cases h:σ a with
    | none=>rw [h] at e; cases e
    | some mo=>
      rw [h] at e
      cases mo with
      | mlist ds=>
        cases e
        obtain ⟨us,h1,h2⟩:=ok.rep a _ h
        exact ⟨a,us,hr,h1.isList,h2⟩
      | inst C dx fs=>cases e
      | mdict kvs=>cases e
theorem asTuple_heap {d:D} {v:Value} {xs:List D} (hr:Rep (nd σ P) s.heap d v) (e:asL σ d=some xs) (ht:isTuple d=true) :
    ∃ a us,v = .ref a∧nd σ P a∧s.heap.IsTuple a us∧RepL (nd σ P) s.heap xs us.toList∧d = .tuple xs:=by
  cases d <;> simp only [isTuple] at ht <;> try cases ht
  simp only [asL] at e
  cases e
  simp only [Rep] at hr
  obtain ⟨a,us,h1,h0,h2,h3⟩:=hr
  exact ⟨a,us,h1,h0,h2,h3,rfl⟩
theorem binX_sound {op:Operator} {a b:D} {v u:Value} (g:Good c nm vs env ρ σ P s) (h:binX op a b σ Φ) (ha:Rep (nd σ P) s.heap a v) (hb:Rep (nd σ P) s.heap b u)
    (hQ:∀ v d σ' s',Φ d σ'→Step c.W noF σ σ' s s'→StoreOk σ' P s'.heap→Rep (nd σ' P) s'.heap d v→Q v s'):wpAny c.M A (binaryOp op v u) Q E s:=by
  unfold binX at h
  split at h
  · obtain ⟨xs,ys,e1,e2,hn,⟨t1,t2,h⟩ | ⟨t1,t2,h⟩⟩:=h
    · obtain ⟨l,us,rfl,hl,hr⟩:=asList_heap g.st ha e1 t1
      obtain ⟨l',us',rfl,hl',hr'⟩:=asList_heap g.st hb e2 t2
      have q1:=hr.length; have q2:=hr'.length
      simp only [Array.length_toList] at q1 q2
      refine add_list_any hl hl' ?_ (by have:=sizeLine_small; omega)
      refine fin_keeps g hQ h (keeps_push' s _) (newList_rep g (keeps_heap (keeps_push' s _)) (get?_size_none _) (n:=0) ⟨_,Heap.get?_push_size _ rfl,rfl,?_⟩ (us:=us.toList++us'.toList) (hr.append hr')).2
      simp
    · obtain ⟨l,us,rfl,n1,hl,hr,rfl⟩:=asTuple_heap ha e1 t1
      obtain ⟨l',us',rfl,n2,hl',hr',rfl⟩:=asTuple_heap hb e2 t2
      have q1:=hr.length; have q2:=hr'.length
      simp only [Array.length_toList] at q1 q2
      obtain ⟨⟨cls,dd,data,sl⟩,ho,hc,n,hd⟩:=id hl
      obtain ⟨⟨cls2,dd2,data2,sl2⟩,ho2,hc2,m,hd2⟩:=id hl'
      simp only at hc hd hc2 hd2
      subst hc hd hc2 hd2
      by_cases z1:us.isEmpty=true
      · refine concat_meets ⟨_,ho,rfl⟩ ⟨_,ho2,rfl⟩ noFill_tuple_add seq_tuple_add PySem.F.slot_tuple_add PySem.F.entry_tuple_add (PySem.F.args_tuple_add_2 _ _) (tuple_addW0 l l' us us' n m dd dd2 sl sl2 z1) ⟨ho,ho2,?_⟩
        have:xs=[]:=by
          have z:us.size=0:=by simpa using z1
          exact List.eq_nil_of_length_eq_zero (by omega)
        subst this
        exact fin_keeps g hQ h (keeps_refl s) hb
      · by_cases z2:us'.isEmpty=true
        · refine concat_meets ⟨_,ho,rfl⟩ ⟨_,ho2,rfl⟩ noFill_tuple_add seq_tuple_add PySem.F.slot_tuple_add PySem.F.entry_tuple_add (PySem.F.args_tuple_add_2 _ _) (tuple_addW1 l l' us us' n m dd dd2 sl sl2 z1 z2) ⟨ho,ho2,?_⟩
          have:ys=[]:=by
            have z:us'.size=0:=by simpa using z2
            exact List.eq_nil_of_length_eq_zero (by omega)
          subst this
          rw [List.append_nil] at h
          exact fin_keeps g hQ h (keeps_refl s) ha
        · refine concat_meets ⟨_,ho,rfl⟩ ⟨_,ho2,rfl⟩ noFill_tuple_add seq_tuple_add PySem.F.slot_tuple_add PySem.F.entry_tuple_add (PySem.F.args_tuple_add_2 _ _) (tuple_addW2 l l' us us' n m dd dd2 sl sl2 z1 z2 (by have:=sizeLine_small; omega)) ⟨ho,ho2,?_⟩
          refine fin_tuple g h hQ (keeps_push' s _) (get?_size_none _) (us:=us.toList++us'.toList) ⟨_,Heap.get?_push_size _ rfl,rfl,0,?_⟩ (hr.append hr')
          simp
  · exact h.elim
theorem intS_elim {a b:D} {v u:Value} {N:Addr→Prop} {h':Heap} {K:Int→Int→Prop} (h:intS a b K) (ha:Rep N h' a v) (hb:Rep N h' b u):∃ x y t t',v = .int x t∧u = .int y t'∧K x y:=by
  cases a with
  | int x=>
    cases b with
    | int y=>
      obtain ⟨t,rfl⟩:∃ t,v = .int x t:=ha
      obtain ⟨t',rfl⟩:∃ t,u = .int y t:=hb
      exact ⟨x,y,t,t',rfl,rfl,h⟩
    | _=>exact (show False from h).elim
  | _=>exact (show False from h).elim
theorem addS_sound {a b:D} {v u:Value} (g:Good c nm vs env ρ σ P s) (h:addS a b σ Φ) (ha:Rep (nd σ P) s.heap a v) (hb:Rep (nd σ P) s.heap b u)
    (hQ:∀ v d σ' s',Φ d σ'→Step c.W noF σ σ' s s'→StoreOk σ' P s'.heap→Rep (nd σ' P) s'.heap d v→Q v s'):wpAny c.M A (binaryOp .Add v u) Q E s:=by
  cases a with
  | int x=>
    obtain ⟨x,y,t,t',rfl,rfl,h⟩:=intS_elim (a := .int x) (b:=b) (K:=fun x y=>Φ (.int (x+y)) σ) h ha hb
    exact PyProof.Rows.add_int (fin_keeps g hQ h (keeps_toks s _) rep_int)
  | list xs=>
    cases b with
    | list ys=>
      have h:xs.length+ys.length≤small∧Φ (.list (xs++ys)) σ:=h
      obtain ⟨l,us,rfl,_,hl,hr⟩:∃ a vs,v = .ref a∧nd σ P a∧s.heap.IsList a vs∧RepL (nd σ P) s.heap xs vs.toList:=ha
      obtain ⟨l',us',rfl,_,hl',hr'⟩:∃ a vs,u = .ref a∧nd σ P a∧s.heap.IsList a vs∧RepL (nd σ P) s.heap ys vs.toList:=hb
      have e1:=hr.length; have e2:=hr'.length
      simp only [Array.length_toList] at e1 e2
      refine add_list_any hl hl' ?_ (by have:=h.1; have:=sizeLine_small; omega)
      refine fin_keeps g hQ h.2 (keeps_push' s _) (newList_rep g (keeps_heap (keeps_push' s _)) (get?_size_none _) (n:=0) ⟨_,Heap.get?_push_size _ rfl,rfl,?_⟩ (us:=us.toList++us'.toList) (hr.append hr')).2
      simp
    | _=>exact binX_sound g h ha hb hQ
  | _=>exact binX_sound g h ha hb hQ
theorem RepL.rep {N:Addr→Prop} {h:Heap} {ds:List D} {us:List Value} (x:RepL N h ds us):∀ n,RepL N h (List.replicate n ds).flatten (List.replicate n us).flatten
  | 0 => .nil
  | n+1=>by
    rw [List.replicate_succ,List.replicate_succ,List.flatten_cons,List.flatten_cons]
    exact x.append (RepL.rep x n)
theorem mul_any {l:Addr} {items:Array Value} {k:Nat} {x:Int} {u:Tok} (hl:s.heap.get? l=some { cls := .type "list",dict:=none,data := .seq items k,slots:=#[] }) (hlo : -(2 ^ 63:Int)≤x) (hhi:x<2 ^ 63) (hsz:items.size*x.toNat≤2 ^ 24)
    (h:Q (.ref s.heap.objs.size) { s with heap:=s.heap.push { cls := .type "list",data := .seq (List.foldl (fun x1 x2=>x1++x2) #[] (List.replicate (if items.isEmpty=true then 0 else x.toNat) items)) } }):wpAny c.M A (binaryOp .Mult (.ref l) (.int x u)) Q E s:=
  wpAny_binaryOp_repeat_ref (T := "list") (U := "int") (by decide) ⟨_,hl,rfl⟩ (fun s'=>typeIs_int s' x u) noFill_list_mul F.fills_int_mul F.slot_int_rmul repeat_list F.slot_int_index.lookup
    (call_meets F.slot_int_rmul (typeIs_int s x u) F.entry_int_rmul (F.args_int_rmul_2 _ _) (int___rmul___int_list x u l items k)
      ⟨hl,rfl,⟨_,hl,rfl⟩,call_meets F.slot_list_mul ⟨_,hl,rfl⟩ F.entry_list_mul (F.args_list_mul_2 _ _)
        (AutoListH.list___mul___list_int_3 l items k x u (by simp [Builtin.List.listFitsIndex]; omega) (by omega) (by simp [Builtin.List.listTooLong,sizeLine]; omega)) ⟨hl,h⟩⟩)
theorem mulS_sound {a b:D} {v u:Value} (g:Good c nm vs env ρ σ P s) (h:mulS a b σ Φ) (ha:Rep (nd σ P) s.heap a v) (hb:Rep (nd σ P) s.heap b u)
    (hQ:∀ v d σ' s',Φ d σ'→Step c.W noF σ σ' s s'→StoreOk σ' P s'.heap→Rep (nd σ' P) s'.heap d v→Q v s'):wpAny c.M A (binaryOp .Mult v u) Q E s:=by
  have hInt:intS a b (fun x y=>(x.natAbs<2 ^ 64∨y.natAbs<2 ^ 64)∧Φ (.int (x*y)) σ)→wpAny c.M A (binaryOp .Mult v u) Q E s:=fun h=>by
    obtain ⟨x,y,t,t',rfl,rfl,h⟩:=intS_elim h ha hb
    exact PyProof.Rows.mul_int (fin_keeps g hQ h.2 (keeps_toks s _) rep_int) (by
      have h1:=h.1
      unfold IntMulOk
      intro hx
      simp only [Bool.and_eq_true,decide_eq_true_eq] at hx
      rcases h1 with h1 | h1
      · exact absurd hx.1.1 (Nat.not_lt.mpr (Nat.le_trans (PyProof.Rows.intBits_le h1) (by decide)))
      · exact absurd hx.1.2 (Nat.not_lt.mpr (Nat.le_trans (PyProof.Rows.intBits_le h1) (by decide))))
  cases a with
  | obj p =>
    cases b with
    | int n=>
      obtain ⟨xs,hm,h0,h1,h2,hne,h⟩:∃ xs,σ p=some (.mlist xs)∧0≤n∧n≤small∧xs.length*n.toNat≤small∧xs≠[]∧Φ (.list (List.replicate n.toNat xs).flatten) σ:=h
      obtain rfl:v = .ref p:=ha
      obtain ⟨t,rfl⟩:∃ t,u = .int n t:=hb
      obtain ⟨us,⟨k,ho⟩,hr⟩:=g.st.rep p _ hm
      have el:=hr.length
      simp only [Array.length_toList] at el
      have hs:small≤2 ^ 24:=by decide
      refine mul_any ho (by unfold small at h1; omega) (by unfold small at h1; omega) (by rw [el]; omega) ?_
      have hz:us.isEmpty=false:=by
        cases q:us.isEmpty with
        | false=>rfl
        | true=>
          have:us.size=0:=by simpa [Array.isEmpty] using q
          exact absurd (List.length_eq_zero_iff.mp (by omega)) hne
      rw [hz,if_neg Bool.false_ne_true,listMul_foldl]
      exact fin_list g (m:=false) h hQ (keeps_push' s _) (get?_size_none _) (us:=(List.replicate n.toNat us.toList).flatten) ⟨0,by simpa using Heap.get?_push_size _ rfl⟩ (hr.rep _)
    | _=>exact (show False from h).elim
  | _=>exact hInt h
theorem binS_sound {op:Operator} {a b:D} {v u:Value} (g:Good c nm vs env ρ σ P s) (h:binS op a b σ Φ) (ha:Rep (nd σ P) s.heap a v) (hb:Rep (nd σ P) s.heap b u)
    (hQ:∀ v d σ' s',Φ d σ'→Step c.W noF σ σ' s s'→StoreOk σ' P s'.heap→Rep (nd σ' P) s'.heap d v→Q v s'):wpAny c.M A (binaryOp op v u) Q E s:=by
  cases op with
  | Add=>exact addS_sound g h ha hb hQ
  | Sub=>
    obtain ⟨x,y,t,t',rfl,rfl,h⟩:=intS_elim h ha hb
    exact PyProof.Rows.sub_int (fin_keeps g hQ h (keeps_toks s _) rep_int)
  | Mult=>exact mulS_sound g h ha hb hQ
  | Mod=>
    obtain ⟨x,y,t,t',rfl,rfl,h⟩:=intS_elim h ha hb
    refine PyProof.Rows.mod_int (Int.ne_of_gt h.1) ?_
    rw [Int.fmod_eq_emod_of_nonneg x (Int.le_of_lt h.1)]
    exact fin_keeps g hQ h.2 (keeps_toks s _) rep_int
  | FloorDiv=>
    obtain ⟨x,y,t,t',rfl,rfl,h⟩:=intS_elim h ha hb
    have h1:=h.1
    refine PyProof.Rows.floordiv_int (Int.ne_of_gt h1.1) ?_ (Or.inl (PyProof.noPylong_of_log2 ?_))
    · rw [Int.fdiv_eq_ediv_of_nonneg x (Int.le_of_lt h1.1)]
      exact fin_keeps g hQ h.2 (keeps_toks s _) rep_int
    · have h3:y.natAbs≠0:=by omega
      refine (Nat.log2_lt h3).mpr ?_
      have h4:=h1.2
      refine Nat.lt_of_lt_of_le (m:=10 ^ 50) ?_ big_9000
      omega
  | Pow=>
    obtain ⟨x,y,t,t',rfl,rfl,h⟩:=intS_elim h ha hb
    exact PyProof.Rows.pow_int h.1.1 h.1.2 (fin_keeps g hQ h.2 (keeps_toks s _) rep_int)
  | _=>exact (show False from h).elim
end
theorem beq_dec (x y:Int):(x==y)=decide (x=y):=by by_cases h:x=y <;> simp [h]
theorem isTup_of {h:Heap} {a:Addr} {us:Array Value} (x:h.IsTuple a us):IsTup h a us.toList.toArray:=by rw [Array.toArray_toList]; exact x
mutual
theorem reads_of {N:Addr→Prop} {h:Heap}:∀ (d:D) (v:Value) (x:PyData),Rep N h d v→D.py d=some x→∃ as,Reads h v x as
  | .none,v,x,r,e=>by simp only [Rep] at r; simp only [D.py] at e; cases e; subst r; exact ⟨_,.none⟩
  | .bool b,v,x,r,e=>by simp only [Rep] at r; simp only [D.py] at e; cases e; subst r; exact ⟨_,.bool b⟩
  | .int i,v,x,r,e=>by simp only [Rep] at r; simp only [D.py] at e; cases e; obtain ⟨t,rfl⟩:=r; exact ⟨_,.int i t⟩
  | .str i,v,x,r,e=>by simp only [Rep] at r; simp only [D.py] at e; cases e; obtain ⟨t,rfl⟩:=r; exact ⟨_,.str i t⟩
  | .obj a,v,x,r,e=>by simp only [D.py] at e; cases e
  | .tuple ds,v,x,r,e=>by
    simp only [Rep] at r
    simp only [D.py,Option.map_eq_some_iff] at e
    obtain ⟨xs,e1,rfl⟩:=e
    obtain ⟨a,us,rfl,_,⟨o,ho,hc,n,hd⟩,hl⟩:=r
    obtain ⟨as,ra⟩:=readsL_of ds us.toList xs hl e1
    exact ⟨_,.tuple ho hc hd ra⟩
  | .list ds,v,x,r,e=>by
    simp only [Rep] at r
    simp only [D.py,Option.map_eq_some_iff] at e
    obtain ⟨xs,e1,rfl⟩:=e
    obtain ⟨a,us,rfl,_,⟨o,ho,hc,n,hd⟩,hl⟩:=r
    obtain ⟨as,ra⟩:=readsL_of ds us.toList xs hl e1
    exact ⟨_,.list ho hc hd ra⟩
theorem readsL_of {N:Addr→Prop} {h:Heap}:∀ (ds:List D) (vs:List Value) (xs:List PyData),RepL N h ds vs→D.pys ds=some xs→∃ as,ReadsAll h vs xs as
  | [],vs,xs,r,e=>by simp only [RepL] at r; simp only [D.pys] at e; cases e; subst r; exact ⟨_,.nil⟩
  | d::ds,vs,xs,r,e=>by
    simp only [RepL] at r
    obtain ⟨v,u,rfl,h1,h2⟩:=r
    simp only [D.pys,Option.bind_eq_some_iff,Option.map_eq_some_iff] at e
    obtain ⟨y,e1,ys,e2,rfl⟩:=e
    obtain ⟨as,ra⟩:=reads_of d v y h1 e1
    obtain ⟨bs,rb⟩:=readsL_of ds u ys h2 e2
    exact ⟨_,.cons ra rb⟩
end
section
variable {c:Cx} {A:Around} {nm:Nat→Str} {vs:List Nat} {env:Env} {ρ:PEnv} {σ:Store} {P:Addr→Prop} {s:Shared} {Q:Value→Shared→Prop} {E:Value→Shared→Prop} {Φ:D→Store→Prop}
theorem eqP_reads (ok:StoreOk σ P s.heap) {d:D} {v:Value} {x:PyData} (hr:Rep (nd σ P) s.heap d v) (e:eqP σ d=some x):∃ as,Reads s.heap v x as:=by
  cases d with
  | obj a=>
    simp only [eqP] at e
    simp only [Rep] at hr
    subst hr
    cases h:σ a with
    | none=>rw [h] at e; cases e
    | some mo=>
      rw [h] at e
      cases mo with
      | mlist ds=>
        simp only [Option.map_eq_some_iff] at e
        obtain ⟨xs,e1,rfl⟩:=e
        obtain ⟨us,⟨n,ho⟩,hl⟩:=ok.rep a _ h
        obtain ⟨as,ra⟩:=readsL_of ds us.toList xs hl e1
        exact ⟨_,.list ho rfl rfl ra⟩
      | inst C dx fs=>cases e
      | mdict kvs=>cases e
  | _=>exact reads_of _ v x hr (by simpa only [eqP] using e)
theorem isNone_val {d:D} {v:Value} {t:Bool} (hr:Rep (nd σ P) s.heap d v) (e:isNone d=some t):(v==Value.none)=t:=by
  cases d <;> simp only [isNone] at e <;> cases e <;> simp only [Rep] at hr
  · subst hr; rfl
  · subst hr; rfl
  · obtain ⟨t,rfl⟩:=hr; rfl
  · obtain ⟨t,rfl⟩:=hr; rfl
  · obtain ⟨a,us,rfl,_⟩:=hr; rfl
  · obtain ⟨a,us,rfl,_⟩:=hr; rfl
  · subst hr; rfl
theorem ints_of_repL {N:Addr→Prop} {h:Heap}:∀ {ns:List Int} {us:List Value},RepL N h (ns.map D.int) us→IntsAre us ns
  | [],us,x=>by simp only [List.map_nil,RepL] at x; subst x; exact .nil
  | n::r,us,x=>by
    simp only [List.map_cons,RepL,Rep] at x
    obtain ⟨v,q,rfl,⟨t,rfl⟩,hq⟩:=x
    exact .cons n t (ints_of_repL hq)
noncomputable def eqI (k:Int) (v:Value):Bool:=match v with
  | .int i _=>i==k
  | _=>false
theorem any_eqI {k:Int}:∀ {us:List Value} {ns:List Int},IntsAre us ns→us.any (eqI k)=ns.contains k
  | _,_,.nil=>rfl
  | _,_,.cons n t r=>by
    rw [List.any_cons,List.contains_cons,any_eqI r]
    congr 1
    show (n==k)=(k==n)
    by_cases h:n=k
    · subst h; rfl
    · rw [beq_eq_false_iff_ne.mpr h,beq_eq_false_iff_ne.mpr (Ne.symm h)]
theorem ints_all:∀ {us:List Value} {ns:List Int},IntsAre us ns→∀ v∈us,∃ n t,v = .int n t:=fun h v hv=>IntsAre.all h v hv
theorem eqI_at {us:List Value} {ns:List Int} (k:Int) (t:Tok) (hI:IntsAre us ns):∀ y∈us,SeqAt.EqAt A.in1 s y (.int k t) (eqI k y):=fun y hy=>by
  obtain ⟨n,t',rfl⟩:=ints_all hI y hy
  intro prog w E Q hq
  exact wpAny_eqBool_int hq
theorem inG_sound {a b:D} {v u:Value} {K:Bool→Prop} (hA:A.units+64<cLine) (g:Good c nm vs env ρ σ P s) (h:inG a b σ K) (ha:Rep (nd σ P) s.heap a v) (hb:Rep (nd σ P) s.heap b u) (neg:Bool)
    (hQ:∀ t tk,K t→Q (.bool (if neg then !t else t)) { s with toks:=tk }):wpAny c.M A (compareOp (if neg then .NotIn else .In) v u) Q E s:=by
  obtain ⟨x,ys,e1,e2,s1,s2,s3,h⟩:=h
  obtain ⟨as,ra⟩:=eqP_reads g.st ha e1
  obtain ⟨bs,rb⟩:=eqP_reads g.st hb e2
  have s1':x.canLay0=true:=(Bool.and_eq_true_iff.mp s1).1
  have hu:A.units+1+min (PyData.depthAll ys) x.depth<cLine:=Nat.lt_of_le_of_lt (Nat.add_le_add_left (Nat.le_trans (Nat.min_le_left _ _) s3) _) (by omega)
  cases neg with
  | false=>exact SeqAt.in_list_reads rb ra s2 s1' hu (hQ _ s.toks h)
  | true=>exact SeqAt.notIn_list_reads rb ra s2 s1' hu (hQ _ s.toks h)
theorem inS_sound {a b:D} {v u:Value} {K:Bool→Prop} (hA:A.units+64<cLine) (g:Good c nm vs env ρ σ P s) (h:inS a b σ K) (ha:Rep (nd σ P) s.heap a v) (hb:Rep (nd σ P) s.heap b u) (neg:Bool)
    (hQ:∀ t tk,K t→Q (.bool (if neg then !t else t)) { s with toks:=tk }):wpAny c.M A (compareOp (if neg then .NotIn else .In) v u) Q E s:=by
  cases a with
  | int k=>
    have ha':=ha
    obtain ⟨t,rfl⟩:∃ t,v = .int k t:=ha'
    rcases h with ⟨ns,e,h⟩ | ⟨p,kvs,rfl,hm,h⟩ | h
    · obtain ⟨l,us,rfl,hl,hr⟩:=asL_heap g.st hb e
      have hI:=ints_of_repL hr
      have ea:us.any (eqI k)=ns.contains k:=by rw [← Array.any_toList]; exact any_eqI hI
      have hall:=fun y hy=>eqI_at (A:=A) (s:=s) k t hI y (Array.mem_toList_iff.mpr hy)
      have fin:=hQ _ s.toks h
      rw [← ea] at fin
      cases neg with
      | false=>exact hl.elim (fun hl=>SeqAt.in_listAt (eqI k) hl hall fin) fun hl=>SeqAt.in_tupleAt (eqI k) hl hall fin
      | true=>exact hl.elim (fun hl=>SeqAt.notIn_listAt (eqI k) hl hall fin) fun hl=>SeqAt.notIn_tupleAt (eqI k) hl hall fin
    · obtain rfl:u = .ref p:=hb
      obtain ⟨us,hl,hd,hr,hs,_⟩:=dictOf_of_mrep (prog:=c.prog) (w:=c.w) (g.st.rep p _ hm)
      have fin:=hQ _ (s.toks+1) h
      rw [← zip_isSome hr] at fin
      cases neg with
      | false=>exact wpAny_in_of (intKind_is c.prog c.w k t) (by simpa using hs) hd.mapOf fin
      | true=>exact wpAny_notIn_of (intKind_is c.prog c.w k t) (by simpa using hs) hd.mapOf fin
    · exact inG_sound hA g h ha hb neg hQ
  | _=>exact inG_sound hA g h ha hb neg hQ
theorem eqG_sound {a b:D} {v u:Value} {K:Bool→Prop} (hA:A.units+64<cLine) (g:Good c nm vs env ρ σ P s) (h:eqG a b σ K) (ha:Rep (nd σ P) s.heap a v) (hb:Rep (nd σ P) s.heap b u) (neg:Bool)
    (hQ:∀ t,K t→Q (.bool (if neg then !t else t)) s):wpAny c.M A (compareOp (if neg then .NotEq else .Eq) v u) Q E s:=by
  obtain ⟨x,y,e1,e2,s1,s2,h⟩:=h
  obtain ⟨as,ra⟩:=eqP_reads g.st ha e1
  obtain ⟨bs,rb⟩:=eqP_reads g.st hb e2
  cases neg with
  | false=>exact eq_dataH ra rb s1 s2 hA (hQ _ h)
  | true=>exact ne_dataH ra rb s1 s2 hA (hQ _ h)
theorem eqS_sound {a b:D} {v u:Value} {K:Bool→Prop} (hA:A.units+64<cLine) (g:Good c nm vs env ρ σ P s) (h:eqS' a b σ K) (ha:Rep (nd σ P) s.heap a v) (hb:Rep (nd σ P) s.heap b u) (neg:Bool)
    (hQ:∀ t,K t→Q (.bool (if neg then !t else t)) s):wpAny c.M A (compareOp (if neg then .NotEq else .Eq) v u) Q E s:=by
  cases a with
  | int x=>
    cases b with
    | int y=>
      obtain ⟨t,rfl⟩:∃ t,v = .int x t:=ha
      obtain ⟨t',rfl⟩:∃ t,u = .int y t:=hb
      have fin:=hQ _ h
      rw [← beq_dec] at fin
      cases neg with
      | false=>exact PyProof.Rows.eq_int fin
      | true=>exact PyProof.Rows.ne_int fin
    | _=>exact eqG_sound hA g h ha hb neg hQ
  | bool x=>
    cases b with
    | bool y=>
      obtain rfl:v = .bool x:=ha
      obtain rfl:u = .bool y:=hb
      have fin:=hQ _ h
      cases neg with
      | false=>exact PyProof.Rows.eq_bool fin
      | true=>exact PyProof.Rows.ne_bool fin
    | _=>exact eqG_sound hA g h ha hb neg hQ
  | _=>exact eqG_sound hA g h ha hb neg hQ
theorem isS_sound {a b:D} {v u:Value} {K:Bool→Prop} (h:isS a b K) (ha:Rep (nd σ P) s.heap a v) (hb:Rep (nd σ P) s.heap b u):∃ t,u = .none∧(v==Value.none)=t∧K t:=by
  cases b with
  | none=>
    obtain ⟨t,e,h⟩:∃ t,isNone a=some t∧K t:=h
    exact ⟨t,hb,isNone_val ha e,h⟩
  | _=>exact (show False from h).elim
theorem cmpS_sound {op:CmpOp} {a b:D} {v u:Value} (hA:A.units+64<cLine) (g:Good c nm vs env ρ σ P s) (h:cmpS op a b σ Φ) (ha:Rep (nd σ P) s.heap a v) (hb:Rep (nd σ P) s.heap b u)
    (hQ:∀ v d σ' s',Φ d σ'→Step c.W noF σ σ' s s'→StoreOk σ' P s'.heap→Rep (nd σ' P) s'.heap d v→Q v s'):wpAny c.M A (compareOp op v u) Q E s:=by
  have fin:∀ t,Φ (.bool t) σ→Q (.bool t) s:=fun t ht=>fin_keeps g hQ ht (keeps_refl s) rep_bool
  have fin1:∀ t tk,Φ (.bool t) σ→Q (.bool t) { s with toks:=tk }:=fun t tk ht=>fin_keeps g hQ ht (keeps_toks s _) rep_bool
  cases op with
  | Lt=>
    obtain ⟨x,y,t,t',rfl,rfl,h⟩:=intS_elim h ha hb
    exact PyProof.Rows.lt_int (fin _ h)
  | LtE=>
    obtain ⟨x,y,t,t',rfl,rfl,h⟩:=intS_elim h ha hb
    exact PyProof.Rows.le_int (fin _ h)
  | Gt=>
    obtain ⟨x,y,t,t',rfl,rfl,h⟩:=intS_elim h ha hb
    exact PyProof.Rows.gt_int (fin _ h)
  | GtE=>
    obtain ⟨x,y,t,t',rfl,rfl,h⟩:=intS_elim h ha hb
    exact PyProof.Rows.ge_int (fin _ h)
  | Eq=>exact eqS_sound (a:=a) (b:=b) (K:=fun t=>Φ (.bool t) σ) hA g h ha hb false fun t ht=>fin _ ht
  | NotEq=>exact eqS_sound (a:=a) (b:=b) (K:=fun t=>Φ (.bool (!t)) σ) hA g h ha hb true fun t ht=>fin _ ht
  | Is=>
    obtain ⟨t,rfl,e,h⟩:=isS_sound h ha hb
    exact is_none_gen (by rw [e]; exact fin _ h)
  | IsNot=>
    obtain ⟨t,rfl,e,h⟩:=isS_sound h ha hb
    exact isnot_none_gen (by rw [e]; exact fin _ h)
  | In=>exact inS_sound (a:=a) (b:=b) (K:=fun t=>Φ (.bool t) σ) hA g h ha hb false fun t tk ht=>fin1 _ tk ht
  | NotIn=>exact inS_sound (a:=a) (b:=b) (K:=fun t=>Φ (.bool (!t)) σ) hA g h ha hb true fun t tk ht=>fin1 _ tk ht
set_option tactic.hygienic true in
theorem subS_sound {o i:D} {v u:Value} {value slice:Expr} (hs:∀ x y,subscripted slice false x y=operate [x,y] (getItem x y)) (g:Good c nm vs env ρ σ P s) (h:subS o i σ Φ) (ha:Rep (nd σ P) s.heap o v) (hb:Rep (nd σ P) s.heap i u)
    (hQ:∀ v d σ' s',Φ d σ'→Step c.W noF σ σ' s s'→StoreOk σ' P s'.heap→Rep (nd σ' P) s'.heap d v→Q v s'):wpAny c.M A (subscriptTail value slice v u) Q E s:=by
  unfold subS at h
  split at h
  · rename_i k
    obtain ⟨xs,e,hn,h⟩:=h
    simp only [Rep] at hb; obtain ⟨t,rfl⟩:=hb
    obtain ⟨a,us,rfl,hl,hr⟩:=asL_heap g.st ha e
    have el:=hr.length
    simp only [Array.length_toList] at el
    have hsz:us.size≤small:=by omega
    unfold small at hsz
    rcases h with ⟨h0,d,hd,h⟩ | ⟨rfl,d,hd,h⟩
    · obtain ⟨x,hx,hrx⟩:=hr.get hd
      have hlt:k.toNat<us.size:=by
        obtain ⟨hlt,_⟩:=List.getElem?_eq_some_iff.mp hx
        simpa using hlt
      have hx':us[k.toNat]?=some x:=by simpa using hx
      have fin:Q x s:=fin_keeps g hQ h (keeps_refl s) hrx
      rcases hl with hl | hl
      · exact tail_any hl.typeIs slot_list_getitem.lookup (wpAny_getItem_list hl h0 (by omega) hx' fin) (hs _ _)
      · refine item_tupleT (l:=us.toList) (j:=k.toNat) (isTup_of hl) (by omega) (by omega) ?_ (by simpa using hx) fin (hs _ _)
        unfold seqIndex?
        simp only [Array.length_toList]
        rw [if_neg (by omega:¬ k<0),if_pos (by simp; omega)]
    · have hne:xs≠[]:=by intro q; subst q; simp at hd
      have hpos:0<xs.length:=List.length_pos_iff.mpr hne
      rw [List.getLast?_eq_getElem?] at hd
      obtain ⟨x,hx,hrx⟩:=hr.get hd
      have hx':us[us.size - 1]?=some x:=by rw [← el] at hx; simpa using hx
      have fin:Q x s:=fin_keeps g hQ h (keeps_refl s) hrx
      rcases hl with hl | hl
      · refine tail_any hl.typeIs slot_list_getitem.lookup (wpAny_getItem_list_neg hl (by omega) (by omega) (by omega) ?_ fin) (hs _ _)
        rw [show (-1+(us.size:Int)).toNat=us.size - 1 by omega]; exact hx'
      · refine item_tupleT (l:=us.toList) (j:=us.size - 1) (isTup_of hl) (by omega) (by omega) ?_ (by simpa using hx') fin (hs _ _)
        unfold seqIndex?
        simp only [Array.length_toList]
        rw [if_pos (by omega:(-1:Int)<0),if_pos (by simp; omega)]
        congr 1; omega
  · exact h.elim
end
end Mine
end
section
open PySem PySem.W PyProof.Rows
set_option Elab.async false
set_option maxRecDepth 100000
namespace Mine
section
variable {prog:Program} {w:World} {A:Around} {E:Value→Shared→Prop} {s:Shared}
theorem sorted_any {l:Addr} {vs:List Value} {ns:List Int} {Q:Value→Shared→Prop} (hl:s.heap.IsList l vs.toArray) (hI:IntsAre vs ns) (hz:vs.length≤sizeLine) (hasc:ns.length<64∨ns.Pairwise (·≤·))
    (hQ:∀ D h' out ns',h'.PlainList D out→s.heap.get? D=none→IntsAre out.toList ns'→ns'.Perm ns→ns'.Pairwise (·≤·)→(∀ b o,s.heap.get? b=some o→h'.get? b=some o)→Q (.ref D) { s with heap:=h' }) :
    wpAny (model prog w) A (call (.builtin "sorted") [.ref l]) Q E s:=by
  refine Calls.call_function_entry kind_sorted plain_sorted entry_sorted (args_sorted1 _) ?_
  unfold Builtin.«sorted»
  refine wpAny_bind (m:=checkCount "sorted" 1 1 _) (wpAny_pure ?_)
  refine wpAny_bind (collect_list hl ?_ hz)
  refine wpAny_bind (wpAny_newList ?_ hz)
  have hsz:((s.heap.push (seqObj "list" #[] 0)).update s.heap.objs.size (Obj.mapSeq (·++vs.toArray))).objs.size=s.heap.objs.size+1:=by
    rw [Heap.size_update,size_push']
  have hoL:(((s.heap.push (seqObj "list" #[] 0)).update s.heap.objs.size (Obj.mapSeq (·++vs.toArray))).push (seqObj "list" vs.toArray 0)).get? (s.heap.objs.size+1)=some (seqObj "list" vs.toArray 0):=by
    rw [← hsz]; exact Heap.get?_push_size _ rfl
  show wpAny _ _ _ _ _ { s with heap:=((s.heap.push (seqObj "list" #[] 0)).update s.heap.objs.size (Obj.mapSeq (·++vs.toArray))).push (seqObj "list" vs.toArray 0) }
  rw [hsz]
  refine wpAny_bind (wpAny_holding (wpAny_call_entry slot_list_sort ⟨_,hoL,rfl⟩ entry_list_sort (sort_any hoL hI hz (hasc.imp (fun q=>by rw [show vs.length=ns.length from IntsAre.length hI]; exact q) id) fun out ns' a1 a2 a3=>⟨_,rfl,?_⟩) (args_list_sort _)))
  obtain ⟨e,he⟩:=sortedAll_at s.heap vs out
  refine wpAny_pure ⟨_,rfl,hQ _ (sortedAll s.heap vs out) out ns' ⟨e,he⟩ ?_ a1 a2 a3 fun b o=>sortedAll_old⟩
  cases e':s.heap.get? (s.heap.objs.size+1) with
  | none=>rfl
  | some o=>exact absurd (Heap.lt_size e') (Nat.not_lt.mpr (Nat.le_succ _))
theorem ints_items {us:List Value}:∀ {ks:List Int} {acc:List Value},us.length=ks.length→acc.length=ks.length→(∀ (i:Nat) v,acc[i]?=some v→∃ (k:Int) (x:Value),(ks.zip us)[i]?=some (k,x)∧(intKind prog w).is k v=true)→IntsAre acc ks:=by
  induction us with
  | nil=>
    intro ks acc h1 h2 _
    have:ks=[]:=List.eq_nil_of_length_eq_zero (by simpa using h1.symm)
    subst this
    have:acc=[]:=List.eq_nil_of_length_eq_zero (by simpa using h2)
    subst this; exact .nil
  | cons u us ih=>
    intro ks acc h1 h2 h3
    cases ks with
    | nil=>simp at h1
    | cons k ks=>
      cases acc with
      | nil=>simp at h2
      | cons v acc=>
        obtain ⟨k',x,e,hk⟩:=h3 0 v rfl
        simp at e
        obtain ⟨rfl,rfl⟩:=e
        obtain ⟨t,rfl⟩:=isInt_val (k:=k) hk
        refine .cons k t (ih (by simpa using h1) (by simpa using h2) fun i v' e'=>?_)
        have:=h3 (i+1) v' (by simpa using e')
        simpa using this
end
theorem repL_of_ints {N:Addr→Prop} {h:Heap}:∀ {vs:List Value} {ns:List Int},IntsAre vs ns→RepL N h (ns.map D.int) vs
  | _,_,.nil => .nil
  | _,_,.cons n t r => .cons (by simp only [Rep]; exact ⟨t,rfl⟩) (repL_of_ints r)
section
variable {c:Cx} {A:Around} {nm:Nat→Str} {vs:List Nat} {env:Env} {ρ:PEnv} {σ:Store} {P:Addr→Prop} {s:Shared} {Q:Value→Shared→Prop} {E:Value→Shared→Prop} {Φ:D→Store→Prop}
theorem mdict_heap (g:Good c nm vs env ρ σ P s) {a:Addr} {kvs:List (Int×D)} (hm:σ a=some (.mdict kvs)) :
    ∃ us ep,us.length=(kvs.map (·.1)).length∧s.heap.DictOf (intKind c.prog c.w) a ((kvs.map (·.1)).zip us)∧s.heap.DictAt (intKind c.prog c.w) a ((kvs.map (·.1)).zip us) ep∧RepL (nd σ P) s.heap (kvs.map (·.2)) us∧(a==sysModules)=false∧((kvs.map (·.1)).zip us).length=kvs.length:=by
  obtain ⟨us,hl,hd,hr,hs,_,_⟩:=dictOf_of_mrep (prog:=c.prog) (w:=c.w) (g.st.rep a _ hm)
  obtain ⟨ep,hat⟩:=hd.dictAt
  exact ⟨us,ep,by simpa using hl,hd,hat,hr,by simpa using hs,by simp [hl]⟩
theorem one_elim {N:Addr→Prop} {h':Heap} {ds:List D} {us:List Value} {K:D→Prop} (h:oneS ds K) (hr:RepL N h' ds us):∃ d v,us=[v]∧Rep N h' d v∧K d:=
  match ds,h,hr with
  | [d],h,⟨v,_,e,hv,e'⟩=>⟨d,v,by rw [e,e'],hv,h⟩
theorem two_elim {N:Addr→Prop} {h':Heap} {ds:List D} {us:List Value} {K:D→D→Prop} (h:twoS ds K) (hr:RepL N h' ds us):∃ d e v u,us=[v,u]∧Rep N h' d v∧Rep N h' e u∧K d e:=
  match ds,h,hr with
  | [d,e],h,⟨v,_,e1,hv,u,_,e2,hu,e3⟩=>⟨d,e,v,u,by rw [e1,e2,e3],hv,hu,h⟩
theorem intK_elim {N:Addr→Prop} {h':Heap} {d:D} {v:Value} {K:Int→Prop} (h:intK d K) (hr:Rep N h' d v):∃ i t,v = .int i t∧K i:=by
  cases d with
  | int i=>obtain ⟨t,e⟩:∃ t,v = .int i t:=hr; exact ⟨i,t,e,h⟩
  | _=>exact (show False from h).elim
theorem fresh_keep {s:Shared} {h':Heap} (hk:∀ b o,s.heap.get? b=some o→h'.get? b=some o):s.heap.get? h'.objs.size=none:=by
  cases e:s.heap.get? h'.objs.size with
  | none=>rfl
  | some o=>have:=hk _ _ e; rw [get?_size_none] at this; cases this
theorem bi_sorted {m:Bool} {d:D} {v:Value} (g:Good c nm vs env ρ σ P s) (h:∃ ns ms:List Int,asL σ d=some (ns.map D.int)∧isTuple d=false∧ns.length≤small∧(ns.length<64∨ns.Pairwise (·≤·))∧ms.Perm ns∧ms.Pairwise (·≤·)∧mkS m (ms.map D.int) σ Φ) (hv:Rep (nd σ P) s.heap d v)
    (hQ:∀ v d σ' s',Φ d σ'→Step c.W noF σ σ' s s'→StoreOk σ' P s'.heap→Rep (nd σ' P) s'.heap d v→Q v s'):wpAny c.M A (call (.builtin "sorted") [v]) Q E s:=by
  obtain ⟨ns,ms,e,ht,hn,hasc,hp,hs,h⟩:=h
  obtain ⟨a,ws,rfl,hl,hw⟩:=asList_heap g.st hv e ht
  have el:=hw.length
  simp only [Array.length_toList,List.length_map] at el
  have hl':s.heap.IsList a ws.toList.toArray:=by rw [Array.toArray_toList]; exact hl
  refine sorted_any hl' (ints_of_repL hw) (by rw [Array.length_toList]; have:=sizeLine_small; omega) hasc fun D h' out ns' hD hn' hI hp' hs' hk=>?_
  have:ns'=ms:=asc_unique (hp'.trans hp.symm) hs' hs
  subst this
  exact fin_list g h hQ ⟨h',s.toks,rfl,hk⟩ hn' (us:=out.toList) (by rw [Array.toArray_toList]; exact hD) (repL_of_ints hI)
theorem bi_lenD {d:D} {v:Value} (g:Good c nm vs env ρ σ P s) (h:∃ a kvs,d = .obj a∧σ a=some (.mdict kvs)∧kvs.length≤small∧Φ (.int kvs.length) σ) (hv:Rep (nd σ P) s.heap d v)
    (hQ:∀ v d σ' s',Φ d σ'→Step c.W noF σ σ' s s'→StoreOk σ' P s'.heap→Rep (nd σ' P) s'.heap d v→Q v s'):wpAny c.M A (call (.builtin "len") [v]) Q E s:=by
  obtain ⟨a,kvs,rfl,hm,hn,h⟩:=h
  obtain rfl:v = .ref a:=hv
  obtain ⟨us,ep,_,hd,_,_,hs,hz⟩:=mdict_heap g hm
  refine call_len_dict hs hd (by rw [hz]; exact small_63 hn) ?_
  rw [hz]
  exact fin_keeps g hQ h (keeps_toks s _) rep_int
theorem bi_listD {m:Bool} {d:D} {v:Value} (hh:A.handled=none) (g:Good c nm vs env ρ σ P s) (h:∃ a kvs,d = .obj a∧σ a=some (.mdict kvs)∧kvs.length≤small∧mkS m (kvs.map fun x=>D.int x.1) σ Φ) (hv:Rep (nd σ P) s.heap d v)
    (hQ:∀ v d σ' s',Φ d σ'→Step c.W noF σ σ' s s'→StoreOk σ' P s'.heap→Rep (nd σ' P) s'.heap d v→Q v s'):wpAny c.M A (call (.type "list") [v]) Q E s:=by
  obtain ⟨a,kvs,rfl,hm,hn,h⟩:=h
  obtain rfl:v = .ref a:=hv
  obtain ⟨us,ep,hlen,hd,hat,_,hs,hz⟩:=mdict_heap g hm
  refine kdl_call (kdl_dict hs) hh hat (by rw [hz]; have:=sizeLine_small; omega) fun h' tk acc c' hk hD hacc=>?_
  have hI:IntsAre acc.toList (kvs.map (·.1)):=ints_items (prog:=c.prog) (w:=c.w) hlen (by rw [Array.length_toList,hacc.1,hz]; simp) fun i v e=>hacc.2 i v (by simpa using e)
  have e1:(kvs.map fun x=>D.int x.1)=(kvs.map (·.1)).map D.int:=by rw [List.map_map]; rfl
  rw [e1] at h
  exact fin_list g h hQ ⟨h',tk,rfl,hk⟩ (get?_size_none _) (us:=acc.toList) ⟨c',by rw [Array.toArray_toList]; exact hD⟩ (repL_of_ints hI)
theorem bi_tuple {d:D} {v:Value} (g:Good c nm vs env ρ σ P s) (h:∃ xs,asL σ d=some xs∧xs.length≤small∧Φ (.tuple xs) σ) (hv:Rep (nd σ P) s.heap d v)
    (hQ:∀ v d σ' s',Φ d σ'→Step c.W noF σ σ' s s'→StoreOk σ' P s'.heap→Rep (nd σ' P) s'.heap d v→Q v s'):wpAny c.M A (call (.type "tuple") [v]) Q E s:=by
  obtain ⟨xs,e,hn,h⟩:=h
  cases ht:isTuple d with
  | false=>
    obtain ⟨a,ws,rfl,hl,hw⟩:=asList_heap g.st hv e ht
    have el:=hw.length
    simp only [Array.length_toList] at el
    refine call_tuple_list hl (fun h' hk=>?_) (by have:=sizeLine_small; omega)
    exact fin_tuple g h hQ ⟨_,s.toks,rfl,fun b o e=>Heap.get?_push_of_some _ (hk b o e)⟩ (fresh_keep hk) (us:=ws.toList) ⟨_,Heap.get?_push_size _ rfl,rfl,0,by simp⟩ hw
  | true=>
    cases d with
    | tuple ys=>
      cases e
      have hv':=hv
      simp only [Rep] at hv'
      obtain ⟨a,us,rfl,_,hT,_⟩:=hv'
      exact call_tuple_same hT (hQ _ _ σ s h (Step.refl _ _ _ _) g.st hv)
    | _=>cases ht
end
end Mine
end
section
open PySem PyProof.Rows
set_option Elab.async false
namespace Mine
section
variable {c:Cx} {A:Around} {nm:Nat→Str} {vs:List Nat} {env:Env} {ρ:PEnv} {σ:Store} {P:Addr→Prop} {s:Shared} {Q:Value→Shared→Prop} {E:Value→Shared→Prop} {Φ:D→Store→Prop}
theorem tyS_sound {ty:TY} {d:D} {v:Value} {t:Bool} (g:Good c nm vs env ρ σ P s) (e:tyS ty d σ=some t) (h:Φ (.bool t) σ) (hr:Rep (nd σ P) s.heap d v)
    (hQ:∀ v d σ' s',Φ d σ'→Step c.W noF σ σ' s s'→StoreOk σ' P s'.heap→Rep (nd σ' P) s'.heap d v→Q v s'):wpAny c.M A (call (.builtin "isinstance") [v,.type ty.name]) Q E s:=by
  have f1:Q (.bool t) s:=fin_keeps g hQ h (keeps_refl s) rep_bool
  have f2:Q (.bool t) { s with toks:=s.toks+1 }:=fin_keeps g hQ h (keeps_toks s _) rep_bool
  cases d with
  | none=>
    obtain rfl:v = .none:=hr
    cases ty with
    | int=>cases e; exact IsiPair.NoneType_int f2
    | bool=>cases e; exact IsiPair.NoneType_bool f2
    | list=>cases e; exact IsiPair.NoneType_list f2
    | tuple=>cases e; exact IsiPair.NoneType_tuple f2
  | str x=>
    obtain ⟨u,rfl⟩:∃ t,v = .str x t:=hr
    cases ty with
    | int=>cases e; exact IsiPair.str_int f2
    | bool=>cases e; exact IsiPair.str_bool f2
    | list=>cases e; exact IsiPair.str_list f2
    | tuple=>cases e; exact IsiPair.str_tuple f2
  | int i=>
    obtain ⟨u,rfl⟩:∃ t,v = .int i t:=hr
    cases ty with
    | int=>cases e; exact IsiPair.int_int f1
    | bool=>cases e; exact IsiPair.int_bool f2
    | list=>cases e; exact IsiPair.int_list f2
    | tuple=>cases e; exact IsiPair.int_tuple f2
  | bool b=>
    obtain rfl:v = .bool b:=hr
    cases ty with
    | int=>cases e; exact IsiPair.bool_int f1
    | bool=>cases e; exact IsiPair.bool_bool f1
    | list=>cases e; exact IsiPair.bool_list f2
    | tuple=>cases e; exact IsiPair.bool_tuple f2
  | list xs=>
    obtain ⟨a,us,rfl,_,hl,_⟩:=hr
    cases ty with
    | int=>cases e; exact IsiPair.isList_int hl (fun _ _ x=>x) f2
    | bool=>cases e; exact IsiPair.isList_bool hl (fun _ _ x=>x) f2
    | list=>cases e; exact IsiPair.isList_list hl (fun _ _ x=>x) f1
    | tuple=>cases e; exact IsiPair.isList_tuple hl (fun _ _ x=>x) f2
  | tuple xs=>
    obtain ⟨a,us,rfl,_,hl,_⟩:=hr
    cases ty with
    | int=>cases e; exact IsiPair.isTuple_int hl (fun _ _ x=>x) f2
    | bool=>cases e; exact IsiPair.isTuple_bool hl (fun _ _ x=>x) f2
    | list=>cases e; exact IsiPair.isTuple_list hl (fun _ _ x=>x) f2
    | tuple=>cases e; exact IsiPair.isTuple_tuple hl (fun _ _ x=>x) f1
  | obj a=>
    obtain rfl:v = .ref a:=hr
    have e:(match σ a with | some (.mlist _)=>some ty.isL | some (.mdict _)=>some false | _=>Option.none)=some t:=e
    cases hm:σ a with
    | none=>rw [hm] at e; cases e
    | some mo=>
      rw [hm] at e
      cases mo with
      | mlist xs=>
        obtain ⟨us,hl,_⟩:=g.st.rep a _ hm
        cases ty with
        | int=>cases e; exact IsiPair.isList_int hl.isList (fun _ _ x=>x) f2
        | bool=>cases e; exact IsiPair.isList_bool hl.isList (fun _ _ x=>x) f2
        | list=>cases e; exact IsiPair.isList_list hl.isList (fun _ _ x=>x) f1
        | tuple=>cases e; exact IsiPair.isList_tuple hl.isList (fun _ _ x=>x) f2
      | mdict kvs=>
        obtain ⟨n,es,us,ho,_⟩:=g.st.rep a _ hm
        cases e
        cases ty with
        | int=>exact IsiPair.dict_int ho rfl f2
        | bool=>exact IsiPair.dict_bool ho rfl f2
        | list=>exact IsiPair.dict_list ho rfl f2
        | tuple=>exact IsiPair.dict_tuple ho rfl f2
      | _=>cases e
theorem ltS_sound {d:D} {v:Value} {t:Bool} {tp:Addr} (g:Good c nm vs env ρ σ P s) (e:ltS d σ=some t) (h:Φ (.bool t) σ) (hr:Rep (nd σ P) s.heap d v) (ht:s.heap.get? tp=some { cls := .type "tuple",data := .seq #[.type "list",.type "tuple"] })
    (hQ:∀ v d σ' s',Φ d σ'→Step c.W noF σ σ' s s'→StoreOk σ' P s'.heap→Rep (nd σ' P) s'.heap d v→Q v s'):wpAny c.M A (call (.builtin "isinstance") [v,.ref tp]) Q E s:=by
  have f1:∀ tk,Q (.bool t) { s with toks:=tk }:=fun tk=>fin_keeps g hQ h (keeps_toks s _) rep_bool
  have fin:∀ {Tx:String} {vs:List Bool},AnswersAll (fun s=>s.TypeIs v Tx) v [.type "list",.type "tuple"] vs→s.TypeIs v Tx→vs.any id=t→wpAny c.M A (call (.builtin "isinstance") [v,.ref tp]) Q E s:=fun ha hx hv=>IsiPair.tupleOf ha hx ht fun tk=>by rw [hv]; exact f1 tk
  have lst:∀ (a:Addr) us,s.heap.IsList a us→v = .ref a→t=true→wpAny c.M A (call (.builtin "isinstance") [v,.ref tp]) Q E s:=fun a us hl e1 e2=>by
    subst e1; subst e2
    exact fin (.cons (Answers.of_true F.isi_meta_list F.sub_list_list) (.cons (Answers.of_false_list (by decide +kernel) F.isi_meta_tuple F.sub_list_tuple) .nil)) hl.typeIs rfl
  cases d with
  | none=>
    obtain rfl:v = .none:=hr
    cases e
    exact fin (.cons (Answers.of_false_none (by decide +kernel) F.isi_meta_list F.sub_NoneType_list) (.cons (Answers.of_false_none (by decide +kernel) F.isi_meta_tuple F.sub_NoneType_tuple) .nil)) rfl rfl
  | str x=>
    obtain ⟨u,rfl⟩:∃ t,v = .str x t:=hr
    cases e
    exact fin (.cons (Answers.of_false_str (by decide +kernel) F.isi_meta_list F.sub_str_list) (.cons (Answers.of_false_str (by decide +kernel) F.isi_meta_tuple F.sub_str_tuple) .nil)) rfl rfl
  | int i=>
    obtain ⟨u,rfl⟩:∃ t,v = .int i t:=hr
    cases e
    exact fin (.cons (Answers.of_false_int (by decide +kernel) F.isi_meta_list F.sub_int_list) (.cons (Answers.of_false_int (by decide +kernel) F.isi_meta_tuple F.sub_int_tuple) .nil)) rfl rfl
  | bool b=>
    obtain rfl:v = .bool b:=hr
    cases e
    exact fin (.cons (Answers.of_false_bool (by decide +kernel) F.isi_meta_list F.sub_bool_list) (.cons (Answers.of_false_bool (by decide +kernel) F.isi_meta_tuple F.sub_bool_tuple) .nil)) rfl rfl
  | list xs=>
    obtain ⟨a,us,rfl,_,hl,_⟩:=hr
    cases e
    exact lst a us hl rfl rfl
  | tuple xs=>
    obtain ⟨a,us,rfl,_,hl,_⟩:=hr
    cases e
    exact fin (.cons (Answers.of_false_tuple (by decide +kernel) F.isi_meta_list F.sub_tuple_list) (.cons (Answers.of_true F.isi_meta_tuple F.sub_tuple_tuple) .nil)) hl.typeIs rfl
  | obj a=>
    obtain rfl:v = .ref a:=hr
    have e:(match σ a with | some (.mlist _)=>some true | _=>Option.none)=some t:=e
    cases hm:σ a with
    | none=>rw [hm] at e; cases e
    | some mo=>
      rw [hm] at e
      cases mo with
      | mlist xs=>
        obtain ⟨us,hl,_⟩:=g.st.rep a _ hm
        cases e
        exact lst a us hl.isList rfl rfl
      | _=>cases e
theorem mm_sound {mx:Bool} {d:D} {v:Value} (hh:A.handled=none) (g:Good c nm vs env ρ σ P s) (h:mmS mx d σ Φ) (hr:Rep (nd σ P) s.heap d v)
    (hQ:∀ v d σ' s',Φ d σ'→Step c.W noF σ σ' s s'→StoreOk σ' P s'.heap→Rep (nd σ' P) s'.heap d v→Q v s'):wpAny c.M A (call (.builtin (if mx then "max" else "min")) [v] [(Str.ofString "default",.none)]) Q E s:=by
  obtain ⟨ns,e,ht,h⟩:=h
  obtain ⟨a,us,rfl,hl,hw⟩:=asList_heap g.st hr e ht
  have hI:=ints_of_repL hw
  have hl':s.heap.IsList a us.toList.toArray:=by rw [Array.toArray_toList]; exact hl
  cases mx with
  | true=>
    refine call_max_d hh hl' hI fun v h' tk hv hk=>?_
    simp only [if_true] at h
    refine fin_keeps g hQ h ⟨h',tk,rfl,hk⟩ ?_
    cases e:maxOf ns with
    | none=>rw [e] at hv; subst hv; exact rep_none
    | some m=>rw [e] at hv; obtain ⟨t,rfl⟩:=hv; exact rep_int
  | false=>
    refine call_min_d hh hl' hI fun v h' tk hv hk=>?_
    simp only [Bool.false_eq_true,if_false] at h
    refine fin_keeps g hQ h ⟨h',tk,rfl,hk⟩ ?_
    cases e:minOf ns with
    | none=>rw [e] at hv; subst hv; exact rep_none
    | some m=>rw [e] at hv; obtain ⟨t,rfl⟩:=hv; exact rep_int
theorem sset_sound {d:D} {v:Value} (hh:A.handled=none) (g:Good c nm vs env ρ σ P s) (h:ssetS d σ Φ) (hr:Rep (nd σ P) s.heap d v)
    (hQ:∀ v d σ' s',Φ d σ'→Step c.W noF σ σ' s s'→StoreOk σ' P s'.heap→Rep (nd σ' P) s'.heap d v→Q v s'):wpAny c.M A (call (.type "set") [v]) (fun u s'=>wpAny c.M A (call (.builtin "sorted") [u]) Q E s') E s:=by
  obtain ⟨ns,e,ht,h6,h⟩:=h
  obtain ⟨a,us,rfl,hl,hw⟩:=asList_heap g.st hr e ht
  have e1:(ns.map fun (k:Nat)=>D.int k)=(ns.map Int.ofNat).map D.int:=by rw [List.map_map]; rfl
  rw [e1] at hw
  refine call_set hh hl (ints_of_repL hw) h6 fun h' tk hS hk=>?_
  have kh:∀ b o,s.heap.get? b=some o→h'.get? b=some o:=fun b o e=>hk b o (Heap.lt_size e) e
  refine sorted_set (bits_lt h6) hS hh fun Da h'' tk' out hl' hD hI hk'=>?_
  have kk:Keeps s { s with heap:=h'',toks:=tk' }:=⟨h'',tk',rfl,fun b o e=>hk' b o (kh b o e)⟩
  have hsD:s.heap.get? Da=none:=by
    cases e:s.heap.get? Da with
    | none=>rfl
    | some o=>have:=kh Da o e; rw [hD] at this; cases this
  refine fin_keeps g hQ h kk ?_
  have e2:((keysOf (bitsOf ns)).map fun (k:Nat)=>D.int k)=((keysOf (bitsOf ns)).map Int.ofNat).map D.int:=by rw [List.map_map]; rfl
  rw [e2]
  simp only [Rep]
  exact ⟨Da,out,rfl,g.nd_of_none hsD,hl',repL_of_ints hI⟩
theorem fits_ok:∀ f<64,∀ led,(tabOf f led).fits (keysOf f).length=true:=by decide +kernel
theorem lset_sound {d:D} {v:Value} (hh:A.handled=none) (g:Good c nm vs env ρ σ P s) (h:lsetS d σ Φ) (hr:Rep (nd σ P) s.heap d v)
    (hQ:∀ v d σ' s',Φ d σ'→Step c.W noF σ σ' s s'→StoreOk σ' P s'.heap→Rep (nd σ' P) s'.heap d v→Q v s'):wpAny c.M A (call (.type "set") [v]) (fun u s'=>wpAny c.M A (call (.builtin "len") [u]) Q E s') E s:=by
  obtain ⟨ns,rfl,h6,hn,h⟩:=h
  simp only [Rep] at hr
  obtain ⟨a,us,rfl,_,hl,hw⟩:=hr
  have e1:(ns.map fun (k:Nat)=>D.int k)=(ns.map Int.ofNat).map D.int:=by rw [List.map_map]; rfl
  rw [e1] at hw
  refine call_set_tuple hh hl (ints_of_repL hw) h6 fun h' tk hS hk=>?_
  obtain ⟨es,ep,ho,hes⟩:=hS
  have hz:=hes.size
  have hk6:=keys_le (bitsOf ns)
  have kk:Keeps s { s with heap:=h',toks:=tk+1+1 }:=⟨h',_,rfl,fun b o e=>hk b o (Heap.lt_size e) e⟩
  refine call_len_set ho ⟨rfl,rfl,rfl⟩ rfl (by rw [hz]; exact fits_ok _ (bits_lt h6) _) (by omega) ?_
  rw [hz]
  exact fin_keeps g hQ h kk rep_int
theorem dom_set_same {a x:Addr} {xs ys:List D} (h:σ a=some (.mlist xs)):dom (σ.set a (.mlist ys)) x ↔ dom σ x:=by
  constructor
  · intro hd
    rcases dom_set hd with q | rfl
    · exact q
    · exact .inl (by rw [h]; exact Option.some_ne_none _)
  · rintro (q | ⟨y,C,fs,q⟩)
    · left
      unfold Store.set
      by_cases e:x=a
      · rw [if_pos e]; exact Option.some_ne_none _
      · rw [if_neg e]; exact q
    · right
      refine ⟨y,C,fs,?_⟩
      unfold Store.set
      by_cases e:y=a
      · subst e; rw [h] at q; cases q
      · rw [if_neg e]; exact q
theorem upd_mut (g:Good c nm vs env ρ σ P s) {a:Addr} {xs ys:List D} (hm:σ a=some (.mlist xs)) {h':Heap} {tk:Nat} (hs:Heap.SameBut a s.heap h') {us:Array Value} (hn:h'.PlainList a us) (hr:RepL (nd σ P) s.heap ys us.toList) :
    Step c.W noF σ (σ.set a (.mlist ys)) s { s with heap:=h',toks:=tk }∧StoreOk (σ.set a (.mlist ys)) P h':=by
  have hda:dom σ a := .inl (by rw [hm]; exact Option.some_ne_none _)
  have keep:∀ b o,b≠a→s.heap.get? b=some o→h'.get? b=some o:=fun b o hb e=>hs.extBut b o hb e
  have st:Stay (nd σ P) (nd (σ.set a (.mlist ys)) P) s.heap h':=fun b o hN ho _=>⟨keep b o (fun q=>hN.1 (q▸hda)) ho,fun hd=>hN.1 ((dom_set_same hm).mp hd),hN.2⟩
  refine ⟨Step.mk' ⟨h',tk,rfl⟩ (fun b o e hd _=>keep b o (fun q=>hd (q▸hda)) e) (fun b o e=>?_) (fun b hb => .inl ((dom_set_same hm).mp hb)),⟨fun b mo e=>?_,fun x C dx fs e=>?_,fun b hb=>g.st.free b ((dom_set_same hm).mp hb)⟩⟩
  · by_cases q:b=a
    · subst q; obtain ⟨n,ho⟩:=hn; exact ⟨_,ho⟩
    · exact ⟨o,keep b o q e⟩
  · unfold Store.set at e
    by_cases hb:b=a
    · rw [if_pos hb] at e
      cases e
      subst hb
      exact ⟨us,hn,RepL.stay st _ _ hr⟩
    · rw [if_neg hb] at e
      refine MRep.stay st (fun b' o hb' ho=>keep b' o (fun q=>?_) ho) (g.st.rep b mo e)
      subst q
      rcases hb' with q | ⟨C,fs,rfl⟩
      · exact hb q.symm
      · have:=(g.st.apart b C _ fs e).1
        rw [hm] at this; cases this
  · unfold Store.set at e ⊢
    by_cases hx:x=a
    · rw [if_pos hx] at e; cases e
    · rw [if_neg hx] at e
      obtain ⟨h1,h2⟩:=g.st.apart x C dx fs e
      refine ⟨?_,fun y C' fs' e'=>?_⟩
      · rw [if_neg (fun q:dx=a=>by subst q; rw [hm] at h1; cases h1)]; exact h1
      · by_cases hy:y=a
        · rw [if_pos hy] at e'; cases e'
        · rw [if_neg hy] at e'; exact h2 y C' fs' e'
set_option tactic.hygienic true in
theorem app_sound {d e:D} {v u:Value} (g:Good c nm vs env ρ σ P s) (h:appS d e σ Φ) (hr:Rep (nd σ P) s.heap d v) (hu:Rep (nd σ P) s.heap e u)
    (hQ:∀ v d σ' s',Φ d σ'→Step c.W noF σ σ' s s'→StoreOk σ' P s'.heap→Rep (nd σ' P) s'.heap d v→Q v s'):wpAny c.M A (call (.builtin "list.append") [v,u]) Q E s:=by
  unfold appS at h
  split at h
  · rename_i a
    obtain ⟨xs,hm,hn,h⟩:=h
    simp only [Rep] at hr
    subst hr
    obtain ⟨us,hl,hw⟩:=g.st.rep a _ hm
    have el:=hw.length
    simp only [Array.length_toList] at el
    refine wpAny_list_append_plain hl (fun h' hl' hs=>?_) (by have:=sizeLine_small; omega)
    obtain ⟨st,ok⟩:=upd_mut (tk:=s.toks) g hm hs hl' (ys:=xs++[e]) (by
      have:=RepL.append hw (RepL.one hu)
      simpa using this)
    exact hQ _ .none _ _ h st ok rep_none
  · exact h.elim
theorem bi_len {d:D} {v:Value} (g:Good c nm vs env ρ σ P s) (h:∃ xs,asL σ d=some xs∧xs.length≤small∧Φ (.int xs.length) σ) (hv:Rep (nd σ P) s.heap d v)
    (hQ:∀ v d σ' s',Φ d σ'→Step c.W noF σ σ' s s'→StoreOk σ' P s'.heap→Rep (nd σ' P) s'.heap d v→Q v s'):wpAny c.M A (call (.builtin "len") [v]) Q E s:=by
  obtain ⟨xs,e,hn,h⟩:=h
  obtain ⟨a,ws,rfl,hl,hw⟩:=asL_heap g.st hv e
  have el:=hw.length
  rw [Array.length_toList] at el
  rw [← el] at hn h
  have fin:Q (.int ws.size (s.toks+1)) { s with toks:=s.toks+1+1 }:=fin_keeps g hQ h (keeps_toks s _) rep_int
  exact hl.elim (fun hl=>Calls.call_len_list hl (small_63 hn) fin) fun hl=>PyProof.Rows.len_tuple hl (small_63 hn) fin
theorem bi_list {m:Bool} {d:D} {v:Value} (g:Good c nm vs env ρ σ P s) (h:∃ xs,asL σ d=some xs∧xs.length≤small∧mkS m xs σ Φ) (hv:Rep (nd σ P) s.heap d v)
    (hQ:∀ v d σ' s',Φ d σ'→Step c.W noF σ σ' s s'→StoreOk σ' P s'.heap→Rep (nd σ' P) s'.heap d v→Q v s'):wpAny c.M A (call (.type "list") [v]) Q E s:=by
  obtain ⟨xs,e,hn,h⟩:=h
  obtain ⟨a,ws,rfl,hl,hw⟩:=asL_heap g.st hv e
  have el:=hw.length
  rw [Array.length_toList] at el
  have hsz:ws.size≤sizeLine:=by rw [el]; exact Nat.le_trans hn sizeLine_small
  have fin:∀ h' c',(∀ b o',s.heap.get? b=some o'→h'.get? b=some o')→h'.get? s.heap.objs.size=some { cls := .type "list",dict:=none,data := .seq ws c',slots:=#[] }→Q (.ref s.heap.objs.size) { s with heap:=h' }:=
    fun h' c' hk hD=>fin_list g h hQ ⟨h',s.toks,rfl,hk⟩ (get?_size_none _) (us:=ws.toList) ⟨c',by rw [Array.toArray_toList]; exact hD⟩ hw
  rcases hl with ⟨o,ho,hc,n,hd⟩ | ⟨o,ho,hc,n,hd⟩
  · exact call_list_seq (hsz:=hsz) a (.inl rfl) ho hc hd fin
  · exact call_list_seq (hsz:=hsz) a (.inr rfl) ho hc hd fin
theorem biS_sound {b:BI} {m:Bool} {ds:List D} {us:List Value} (hh:A.handled=none) (g:Good c nm vs env ρ σ P s) (h:biS b m ds σ Φ) (hr:RepL (nd σ P) s.heap ds us)
    (hQ:∀ v d σ' s',Φ d σ'→Step c.W noF σ σ' s s'→StoreOk σ' P s'.heap→Rep (nd σ' P) s'.heap d v→Q v s'):wpAny c.M A (call b.val us) Q E s:=by
  cases b with
  | len=>obtain ⟨d,v,rfl,hv,h⟩:=one_elim h hr; exact bi_len g h hv hQ
  | min2=>
    obtain ⟨d,e,v,u,rfl,hv,hu,h⟩:=two_elim h hr
    obtain ⟨x,y,t,t',rfl,rfl,h⟩:=intS_elim h hv hu
    refine min_two_ints hh fun h' tk hk=>?_
    by_cases hc:y<x
    · rw [if_pos hc] at h ⊢
      exact fin_keeps g hQ h ⟨h',tk,rfl,hk⟩ rep_int
    · rw [if_neg hc] at h ⊢
      exact fin_keeps g hQ h ⟨h',tk,rfl,hk⟩ rep_int
  | list=>obtain ⟨d,v,rfl,hv,h⟩:=one_elim h hr; exact bi_list g h hv hQ
  | sorted=>obtain ⟨d,v,rfl,hv,h⟩:=one_elim h hr; exact bi_sorted g h hv hQ
  | lenD=>obtain ⟨d,v,rfl,hv,h⟩:=one_elim h hr; exact bi_lenD g h hv hQ
  | listD=>obtain ⟨d,v,rfl,hv,h⟩:=one_elim h hr; exact bi_listD hh g h hv hQ
  | tupleA=>obtain ⟨d,v,rfl,hv,h⟩:=one_elim h hr; exact bi_tuple g h hv hQ
end
theorem adjust_any (lo hi:Option Int) (n:Nat):Builtin.Slice.sliceAdjust lo hi 1 (n:Int)=(((lo.elim 0 (clipAt n):Nat):Int),((hi.elim n (clipAt n):Nat):Int)):=by
  unfold Builtin.Slice.sliceAdjust
  have h1:¬ ((1:Int)<0):=by omega
  simp only [h1,if_false]
  cases lo <;> cases hi <;> simp only [Option.elim,clipAt_cast,Prod.mk.injEq] <;> (refine ⟨?_,?_⟩ <;> first | rfl | trivial | (split <;> omega))
theorem places_any (a b:Nat):Builtin.Slice.slicePlaces (a:Int) (b:Int) 1=b - a:=by
  unfold Builtin.Slice.slicePlaces
  have h1:(1:Int) > 0:=by omega
  simp only [h1,if_true,Int.ediv_one]
  split <;> omega
set_option tactic.hygienic true in
theorem pick_any (xs:Array Value) (a k:Nat):((List.range k).filterMap fun (k:Nat)=>xs[((a:Int)+(k:Int)*1).toNat]?)=(xs.toList.drop a).take k:=by
  have e:(fun (k:Nat)=>xs[((a:Int)+(k:Int)*1).toNat]?)=fun k=>xs[a+k]?:=by
    funext k
    have:((a:Int)+(k:Int)*1).toNat=a+k:=by omega
    rw [this]
  rw [e]
  have:=pick_run xs a k
  rw [List.filterMap_map] at this
  exact this
section
variable {prog:Program} {w:World} {A:Around} {E:Value→Shared→Prop} {s:Shared}
theorem part_any {v:Value} {l:Option Int} {Q:Option Int→Shared→Prop} (p:IsPart v l) (h:Q l s):wpAny (model prog w) A (Builtin.Slice.slicePartIndex v) Q E s:=by
  cases p with
  | none=>exact slicePart_none h
  | int i t=>exact slicePart_int h
theorem applied_any {sl:Addr} {vl vu:Value} {lo hi:Option Int} {n:Nat} {Q:Int×Int×Nat→Shared→Prop} (hs:s.heap.IsSliceOf sl vl vu .none) (pl:IsPart vl lo) (pu:IsPart vu hi)
    (h:Q (((lo.elim 0 (clipAt n):Nat):Int),1,hi.elim n (clipAt n) - lo.elim 0 (clipAt n)) s):wpAny (model prog w) A (Builtin.Slice.sliceApplied (.ref sl) (pure (n:Int))) Q E s:=by
  obtain ⟨os,hos,hcs,hds⟩:=id hs
  unfold Builtin.Slice.sliceApplied Builtin.Slice.sliceFields
  refine wpAny_bind (wpAny_bind (wpAny_field hos hds (x:=vl) rfl (wpAny_bind (wpAny_field hos hds (x:=vu) rfl (wpAny_bind (wpAny_field hos hds (x := .none) rfl (wpAny_pure ?_)))))))
  refine wpAny_bind (slicePart_none ?_)
  show wpAny _ _ (if ((1:Int)==0)=true then _ else _) _ _ s
  rw [if_neg (by decide)]
  refine wpAny_bind (part_any pl (wpAny_bind (part_any pu (wpAny_bind (wpAny_pure ?_)))))
  show wpAny _ _ (match Builtin.Slice.sliceAdjust lo hi 1 (n:Int) with | (lo,hi)=>pure (lo,(1:Int),Builtin.Slice.slicePlaces lo hi 1)) _ _ s
  rw [adjust_any]
  show wpAny _ _ (pure (_,(1:Int),Builtin.Slice.slicePlaces _ _ 1)) _ _ s
  rw [places_any]
  exact wpAny_pure h
set_option tactic.hygienic true in
theorem getItem_tuple_any {t sl:Addr} {items:Array Value} {vl vu:Value} {lo hi:Option Int} {Q:Value→Shared→Prop} (ht:IsTup s.heap t items) (hs:s.heap.IsSliceOf sl vl vu .none) (pl:IsPart vl lo) (pu:IsPart vu hi)
    (h:∀ h' a,(∀ b o,s.heap.get? b=some o→h'.get? b=some o)→(s.heap.get? a=none∨a=t)→h'.IsTuple a ((items.toList.drop (lo.elim 0 (clipAt items.size))).take (hi.elim items.size (clipAt items.size) - lo.elim 0 (clipAt items.size))).toArray→Q (.ref a) { s with heap:=h' })
    (hsz:items.size≤sizeLine:=by size_fits):wpAny (model prog w) A (getItem (.ref t) (.ref sl)) Q E s:=by
  have hcut:sizeOk (.seq ((items.toList.drop (lo.elim 0 (clipAt items.size))).take (hi.elim items.size (clipAt items.size) - lo.elim 0 (clipAt items.size))).toArray):=by
    show Array.size _≤sizeLine
    rw [List.size_toArray,List.length_take,List.length_drop,Array.length_toList]
    omega
  obtain ⟨os,hos,hcs,hds⟩:=id hs
  have hTs:s.TypeIs (.ref sl) "slice" := ⟨os,hos,hcs⟩
  unfold getItem
  try with_reducible refine wpAny_holding ?_
  first | refine wpAny_bind (wpAny_pure ?_) | skip
  refine wpAny_bind (wpAny_sequenceKey ht.typeIs (by decide) ?_)
  refine wpAny_bind (wpAny_callSpecial?_slot (name:=Str.ofString "__getitem__") ht.typeIs slot_tuple_getitem
    (wpAny_call_entry slot_tuple_getitem ht.typeIs entry_tuple_getitem ?_ (args_tuple_getitem _ _)))
  show wpAny _ _ (Builtin.Tuple.tupleItemsOf (.ref t) >>= _) _ _ s
  refine wpAny_bind (tupleItemsOf_ ht ?_)
  refine wpAny_bind (wpAny_typeOf hTs ?_)
  rw [if_pos (by decide)]
  refine wpAny_bind (applied_any hs pl pu ?_)
  show wpAny _ _ (if (((lo.elim 0 (clipAt items.size):Nat):Int)==0&&(1:Int)==1&&(hi.elim items.size (clipAt items.size) - lo.elim 0 (clipAt items.size))==items.size)=true then _ else _) _ _ s
  have hnew:=h (s.heap.push { cls := .type "tuple",data := .seq ((items.toList.drop (lo.elim 0 (clipAt items.size))).take (hi.elim items.size (clipAt items.size) - lo.elim 0 (clipAt items.size))).toArray }) s.heap.objs.size (fun b o e=>Heap.get?_push_of_some _ e) (.inl (Heap.get?_none_of_le (Nat.le_refl _))) ⟨_,Heap.get?_push_size _ rfl,rfl,0,rfl⟩
  split
  · rename_i q
    have q1:lo.elim 0 (clipAt items.size)=0∧hi.elim items.size (clipAt items.size) - lo.elim 0 (clipAt items.size)=items.size:=by
      simp only [Bool.and_eq_true,beq_iff_eq] at q
      exact ⟨by omega,q.2⟩
    have hsame:=h s.heap t (fun _ _ e=>e) (.inr rfl) (by rw [q1.2,q1.1,List.drop_zero,List.take_of_length_le (by simp),Array.toArray_toList]; exact ht)
    refine wpAny_bind (m:=Builtin.Tuple.tupleIsExact (.ref t)) ?_
    unfold Builtin.Tuple.tupleIsExact
    refine wpAny_bind (wpAny_typeOf ht.typeIs (wpAny_pure ?_))
    rw [if_pos (by decide)]
    exact wpAny_bind (wpAny_rule (wpAny_pure ⟨_,rfl,wpAny_pure hsame⟩))
  · rw [pick_any]
    first
      | exact wpAny_bind (m:=Builtin.Tuple.tupleExact _) (wpAny_newObj_type (wpAny_pure ⟨_,rfl,wpAny_pure hnew⟩) hcut)
      | exact wpAny_bind (m:=Builtin.Tuple.tupleExact _) (wpAny_newObj_type (wpAny_bind (wpAny_pure (wpAny_pure ⟨_,rfl,wpAny_pure hnew⟩))) hcut)
      | exact wpAny_bind (wpAny_bind (m:=Builtin.Tuple.tupleExact _) (wpAny_newObj_type (wpAny_pure (wpAny_pure ⟨_,rfl,wpAny_pure hnew⟩)) hcut))
      | exact wpAny_bind (wpAny_bind (m:=Builtin.Tuple.tupleExact _) (wpAny_newObj_type (wpAny_pure ⟨_,rfl,wpAny_pure hnew⟩) hcut))
end
theorem RepL.drop {N:Addr→Prop} {h:Heap}:∀ {ds:List D} {vs:List Value},RepL N h ds vs→∀ n,RepL N h (ds.drop n) (vs.drop n)
  | ds,vs,x,0=>by simpa using x
  | [],vs,x,n+1=>by simp only [RepL] at x; subst x; simp [RepL]
  | d::ds,vs,x,n+1=>by
    simp only [RepL] at x
    obtain ⟨v,r,rfl,h1,h2⟩:=x
    simpa using RepL.drop h2 n
theorem RepL.take {N:Addr→Prop} {h:Heap}:∀ {ds:List D} {vs:List Value},RepL N h ds vs→∀ n,RepL N h (ds.take n) (vs.take n)
  | ds,vs,x,0=>by simp [RepL]
  | [],vs,x,n+1=>by simp only [RepL] at x; subst x; simp [RepL]
  | d::ds,vs,x,n+1=>by
    simp only [RepL] at x
    obtain ⟨v,r,rfl,h1,h2⟩:=x
    simpa using RepL.cons h1 (RepL.take h2 n)
section
variable {c:Cx} {A:Around} {nm:Nat→Str} {vs:List Nat} {env:Env} {ρ:PEnv} {σ:Store} {P:Addr→Prop} {s:Shared} {Q:Value→Shared→Prop} {E:Value→Shared→Prop} {Φ:D→Store→Prop}
theorem partI_part {o:Option D} {l:Option Int} {v:Value} (e:partI o=some l) (hv:(o=Option.none∧v = .none)∨∃ d,o=some d∧Rep (nd σ P) s.heap d v):IsPart v l:=by
  rcases hv with ⟨rfl,rfl⟩ | ⟨d,rfl,hr⟩
  · simp only [partI] at e; cases e; exact .none
  · cases d <;> simp only [partI] at e <;> cases e
    simp only [Rep] at hr
    obtain ⟨t,rfl⟩:=hr
    exact .int _ t
theorem slcS_sound {m:Bool} {o:D} {lo hi:Option D} {v l u:Value} {sl:Addr} {value:Expr} {lower upper:Option Expr} {p:Pos} (g:Good c nm vs env ρ σ P s) (h:slcS m o lo hi σ Φ) (ha:Rep (nd σ P) s.heap o v)
    (hl:(lo=Option.none∧l = .none)∨∃ d,lo=some d∧Rep (nd σ P) s.heap d l) (hu:(hi=Option.none∧u = .none)∨∃ d,hi=some d∧Rep (nd σ P) s.heap d u) (hsl:s.heap.IsSliceOf sl l u .none)
    (hQ:∀ v d σ' s',Φ d σ'→Step c.W noF σ σ' s s'→StoreOk σ' P s'.heap→Rep (nd σ' P) s'.heap d v→Q v s'):wpAny c.M A (subscriptTail value (.Slice lower upper Option.none p) v (.ref sl)) Q E s:=by
  have seq:(∃ xs l h,asL σ o=some xs∧partI lo=some l∧partI hi=some h∧xs.length≤small∧(match isTuple o with | true=>Φ (.tuple (sliceD xs l h)) σ | false=>mkS m (sliceD xs l h) σ Φ))→wpAny c.M A (subscriptTail value (.Slice lower upper Option.none p) v (.ref sl)) Q E s:=fun h=>by
    obtain ⟨xs,x,y,e,e1,e2,hn,h⟩:=h
    cases ht:isTuple o with
    | true=>
      rw [ht] at h
      obtain ⟨a,us,rfl,hN,hT,hr,_⟩:=asTuple_heap ha e ht
      have el:=hr.length
      simp only [Array.length_toList] at el
      refine tail_any hT.typeIs slot_tuple_getitem.lookup (getItem_tuple_any hT hsl (partI_part e1 hl) (partI_part e2 hu) (fun h' a' hk hfr hT'=>?_) (by have:=sizeLine_small; omega)) (ops:=[.ref sl,.ref a]) rfl
      have hr':RepL (nd σ P) h' (sliceD xs x y) ((us.toList.drop (x.elim 0 (clipAt us.size))).take (y.elim us.size (clipAt us.size) - x.elim 0 (clipAt us.size))):=by
        unfold sliceD
        rw [← el]
        exact RepL.keeps ((hr.drop _).take _) hk
      refine fin_keeps g hQ h ⟨h',s.toks,rfl,hk⟩ ?_
      simp only [Rep]
      exact ⟨a',_,rfl,hfr.elim g.nd_of_none fun q=>q▸hN,hT',by simpa using hr'⟩
    | false=>
      rw [ht] at h
      obtain ⟨a,us,rfl,hL',hr⟩:=asList_heap g.st ha e ht
      have el:=hr.length
      simp only [Array.length_toList] at el
      refine tail_any hL'.typeIs slot_list_getitem.lookup (wpAny_getItem_list_slice hL' hsl (partI_part e1 hl) (partI_part e2 hu) .none (by simp) ?_ (by have:=sizeLine_small; omega)) (ops:=[.ref sl,.ref a]) rfl
      refine fin_list g h hQ (keeps_push' s _) (get?_size_none _) (us:=(us.toList.drop (x.elim 0 (clipAt us.size))).take (y.elim us.size (clipAt us.size) - x.elim 0 (clipAt us.size))) ⟨0,?_⟩ ?_
      · rw [← slicePick_plain]; exact Heap.get?_push_size _ rfl
      · unfold sliceD
        rw [← el]
        exact (hr.drop _).take _
  cases o with
  | str z=>
    obtain ⟨⟨x,e1⟩,⟨y,e2⟩,hz,h⟩:=h
    obtain ⟨t,rfl⟩:∃ t,v = .str z t:=ha
    obtain ⟨o',ho',hc',hd'⟩:=hsl
    have pv:∀ {w:Value} {k:Option Int},IsPart w k→∃ q,w=partValue q:=fun z=>by
      cases z with
      | none=>exact ⟨none,rfl⟩
      | int i t=>exact ⟨some (i,t),rfl⟩
    obtain ⟨ql,rfl⟩:=pv (partI_part e1 hl)
    obtain ⟨qu,rfl⟩:=pv (partI_part e2 hu)
    refine tail_any (typeIs_str _ z t) F.slot_str_getitem.lookup (wpAny_getItem_str_slice (l:=ql) (u:=qu) (st:=none) ⟨o',ho',hc',hd'⟩ rfl ?_) (ops:=[.ref sl,.str z t]) rfl
    unfold sliceMade
    split
    · exact fin_keeps g hQ (h z) (keeps_refl s) rep_str
    · refine ⟨?_,fin_keeps g hQ (h _) (keeps_toks s _) rep_str⟩
      have h1:(slicePicked z ql qu none).length≤z.length:=indices_len_le _ _ _
      show (List.toArray _).size≤sizeLine
      rw [List.size_toArray]
      have h2:=List.length_filterMap_le (z.cps[·]?) (slicePicked z ql qu none)
      have:=sizeLine_small
      omega
  | _=>exact seq h
end
structure Turns (c:Cx) (A:Around) (I:Addr) (ds:List D) (ok:Store→(Addr→Prop)→Heap→Prop) (It:Nat→Heap→Prop):Prop where
  mv:∀ k h h',It k h→(∀ o,h.get? I=some o→h'.get? I=some o)→It k h'
  alive:∀ k h,It k h→∃ o vs,h.get? I=some o∧o.data = .fields vs
  item:∀ k d (s:Shared) σ P (Q:Option Value→Shared→Prop) (E:Value→Shared→Prop),ds[k]?=some d→It k s.heap→ok σ P s.heap→
    (∀ v h' tk,It (k+1) h'→Heap.SameBut I s.heap h'→Rep (nd σ P) s.heap d v→Q (some v) { s with heap:=h',toks:=tk })→wpAny c.M A (pyNext (.ref I)) Q E s
  done:∀ (s:Shared) σ P (Q:Option Value→Shared→Prop) (E:Value→Shared→Prop),It ds.length s.heap→ok σ P s.heap→
    (∀ h' tk,Heap.ExtBut I s.heap h'→Q Option.none { s with heap:=h',toks:=tk })→wpAny c.M A (pyNext (.ref I)) Q E s
  self:∀ k (s:Shared) σ P (Q:Value→Shared→Prop) (E:Value→Shared→Prop),It k s.heap→ok σ P s.heap→Q (.ref I) s→wpAny c.M A (pyIter (.ref I)) Q E s
noncomputable def SeqOk (T:String) (ax:Addr) (ds:List D) (σ:Store) (P:Addr→Prop) (h:Heap):Prop:=
  ∃ us,(if T = "list" then h.IsList ax us else h.IsTuple ax us)∧RepL (nd σ P) h ds us.toList
theorem Turns.list {c:Cx} {A:Around} (hh:A.handled=none) (I ax:Addr) (ds:List D):Turns c A I ds (SeqOk "list" ax ds) (fun k h=>h.IsListIter I ax k) where
  mv:=fun k h h' x k'=>x.at k'
  alive:=fun k h x=>by
    obtain ⟨o,ho,_,hd⟩:=x
    exact ⟨o,_,ho,hd⟩
  item:=fun k d s σ P Q E hd it ok hQ=>by
    obtain ⟨us,hl,hr⟩:=ok
    simp only [if_true] at hl
    obtain ⟨x,hx,hrx⟩:=hr.get hd
    exact wpAny_pyNext_list_item it hl (x:=x) (by simpa using hx) fun h' hit' hs'=>hQ x h' s.toks hit' hs' hrx
  done:=fun s σ P Q E it ok hQ=>by
    obtain ⟨us,hl,hr⟩:=ok
    simp only [if_true] at hl
    have el:=hr.length
    simp only [Array.length_toList] at el
    exact wpAny_pyNext_list_end hh it hl (by rw [← el]; simp) fun h' he=>hQ h' s.toks he
  self:=fun k s σ P Q E it _ hQ=>wpAny_pyIter_listiter it hQ
theorem Turns.tuple {c:Cx} {A:Around} (hh:A.handled=none) (I ax:Addr) (ds:List D):Turns c A I ds (SeqOk "tuple" ax ds) (fun k h=>h.IsTupleIter I ax k) where
  mv:=fun k h h' x k'=>let ⟨o,ho,r⟩:=x; ⟨o,k' o ho,r⟩
  alive:=fun k h x=>by
    obtain ⟨o,ho,_,hd⟩:=x
    exact ⟨o,_,ho,hd⟩
  item:=fun k d s σ P Q E hd it ok hQ=>by
    obtain ⟨us,hl,hr⟩:=ok
    rw [if_neg (by decide)] at hl
    obtain ⟨x,hx,hrx⟩:=hr.get hd
    exact wpAny_pyNext_tuple_item it hl (x:=x) (by simpa using hx) fun h' hit' hs'=>hQ x h' s.toks hit' hs' hrx
  done:=fun s σ P Q E it ok hQ=>by
    obtain ⟨us,hl,hr⟩:=ok
    rw [if_neg (by decide)] at hl
    have el:=hr.length
    simp only [Array.length_toList] at el
    exact wpAny_pyNext_tuple_end hh it hl (by rw [← el]; simp) fun h' he=>hQ h' s.toks he
  self:=fun k s σ P Q E it ok hQ=>by
    obtain ⟨us,hl,hr⟩:=ok
    rw [if_neg (by decide)] at hl
    refine (Walks.tuple (prog:=c.prog) (w:=c.w) hh I ax ?_ us).self k s Q E ⟨it,hl⟩ hQ
    intro e
    obtain ⟨o,ho,_,n,hd⟩:=hl
    obtain ⟨o',ho',_,hd'⟩:=it
    rw [e,ho'] at ho; cases ho; rw [hd] at hd'; cases hd'
theorem rangeD_get {n:Int} {k:Nat} {d:D} (h:(rangeD n)[k]?=some d):d = .int k∧(k:Int)<n:=by
  unfold rangeD at h
  rw [List.getElem?_map] at h
  cases e:(List.range n.toNat)[k]? with
  | none=>rw [e] at h; cases h
  | some j=>
    rw [e] at h
    cases h
    obtain ⟨h1,h2⟩:=List.getElem?_eq_some_iff.mp e
    simp only [List.length_range] at h1
    simp only [List.getElem_range] at h2
    subst h2
    exact ⟨rfl,by omega⟩
theorem rangeD_length (n:Int):(rangeD n).length=n.toNat:=by simp [rangeD]
theorem Turns.range {c:Cx} {A:Around} (hh:A.handled=none) (I:Addr) (n:Int):Turns c A I (rangeD n) (fun _ _ _=>True) (fun k h=>IsRangeIter h I (k:Int) ((n.toNat:Int) - k) 1) where
  mv:=fun k h h' x k'=>k' _ x
  alive:=fun k h x=>⟨_,_,x,rfl⟩
  item:=fun k d s σ P Q E hd it _ hQ=>by
    obtain ⟨rfl,hk⟩:=rangeD_get hd
    refine wpAny_pyNext_range_item it (by omega) fun h' hit' hs'=>hQ _ h' _ ?_ hs' rep_int
    have e1:((k+1:Nat):Int)=(k:Int)+1:=by omega
    have e2:(n.toNat:Int) - ((k+1:Nat):Int)=(n.toNat:Int) - k - 1:=by omega
    rw [e1]; rw [e1] at e2; rw [e2]; exact hit'
  done:=fun s σ P Q E it _ hQ=>by
    rw [rangeD_length] at it
    exact wpAny_pyNext_range_end hh it (by omega) fun h' he=>hQ h' s.toks he
  self:=fun k s σ P Q E it _ hQ=>by
    refine (Walks.range (prog:=c.prog) (w:=c.w) hh I 0 1 n.toNat).self k s Q E ?_ hQ
    show IsRangeIter s.heap I (0+(k:Nat)*1) ((n.toNat:Int) - (k:Nat)) 1
    rw [Int.mul_one,Int.zero_add]; exact it
end Mine
end
section
open PySem PySem.W PyProof.Rows
set_option Elab.async false
namespace Mine
noncomputable def ext (mo:MObj) (x:Addr):Prop:=∃ C fs,mo = .inst C x fs
theorem dom_set_gen {σ:Store} {a x:Addr} {mo mo':MObj} (hm:σ a=some mo) (he:∀ x,ext mo' x ↔ ext mo x):dom (σ.set a mo') x ↔ dom σ x:=by
  unfold dom Store.set
  constructor
  · rintro (q | ⟨y,C,fs,q⟩)
    · left
      by_cases e:x=a
      · subst e; rw [hm]; exact Option.some_ne_none _
      · rw [if_neg e] at q; exact q
    · right
      by_cases e:y=a
      · rw [if_pos e] at q
        cases q
        obtain ⟨C',fs',e'⟩:=(he x).mp ⟨C,fs,rfl⟩
        exact ⟨a,C',fs',by rw [hm,e']⟩
      · rw [if_neg e] at q; exact ⟨y,C,fs,q⟩
  · rintro (q | ⟨y,C,fs,q⟩)
    · left
      by_cases e:x=a
      · rw [if_pos e]; exact Option.some_ne_none _
      · rw [if_neg e]; exact q
    · right
      by_cases e:y=a
      · subst e
        rw [hm] at q
        cases q
        obtain ⟨C',fs',e'⟩:=(he x).mpr ⟨C,fs,rfl⟩
        exact ⟨y,C',fs',by rw [if_pos rfl,e']⟩
      · exact ⟨y,C,fs,by rw [if_neg e]; exact q⟩
section
variable {c:Cx} {A:Around} {nm:Nat→Str} {vs:List Nat} {env:Env} {ρ:PEnv} {σ:Store} {P:Addr→Prop} {s:Shared} {Q:Value→Shared→Prop} {E:Value→Shared→Prop} {Φ:D→Store→Prop}
theorem upd_gen (g:Good c nm vs env ρ σ P s) {a b:Addr} {mo mo':MObj} (hm:σ a=some mo) (he:∀ x,ext mo' x ↔ ext mo x) (hb:b=a∨ext mo b) {h':Heap} {tk:Nat} (hs:Heap.SameBut b s.heap h') (hal:∃ o,h'.get? b=some o)
    (hr:Stay (nd σ P) (nd (σ.set a mo') P) s.heap h'→MRep (σ.set a mo') P h' a mo') :
    Step c.W noF σ (σ.set a mo') s { s with heap:=h',toks:=tk }∧StoreOk (σ.set a mo') P h':=by
  have hdb:dom σ b:=hb.elim (fun e => .inl (by rw [e,hm]; exact Option.some_ne_none _)) (fun ⟨C,fs,e⟩ => .inr ⟨a,C,fs,by rw [hm,e]⟩)
  have hd:∀ x,dom (σ.set a mo') x ↔ dom σ x:=fun x=>dom_set_gen hm he
  have keep:∀ x o,x≠b→s.heap.get? x=some o→h'.get? x=some o:=fun x o hx e=>hs.extBut x o hx e
  have st:Stay (nd σ P) (nd (σ.set a mo') P) s.heap h':=fun x o hN ho _=>⟨keep x o (fun q=>hN.1 (q▸hdb)) ho,fun q=>hN.1 ((hd x).mp q),hN.2⟩
  refine ⟨Step.mk' ⟨h',tk,rfl⟩ (fun x o e hx _=>keep x o (fun q=>hx (q▸hdb)) e) (fun x o e=>?_) (fun x hx => .inl ((hd x).mp hx)),⟨fun x m e=>?_,fun x C dx fs e=>?_,fun x hx=>g.st.free x ((hd x).mp hx)⟩⟩
  · by_cases q:x=b
    · rw [q]; exact hal
    · exact ⟨o,keep x o q e⟩
  · unfold Store.set at e
    by_cases hx:x=a
    · rw [if_pos hx] at e
      cases e
      subst hx
      exact hr st
    · rw [if_neg hx] at e
      refine MRep.stay st (fun y o hy ho=>keep y o (fun q=>?_) ho) (g.st.rep x m e)
      subst q
      rcases hy with q | ⟨C,fs,rfl⟩
      · rcases hb with q' | ⟨C,fs,e'⟩
        · exact hx (q.symm.trans q')
        · have:=(g.st.apart a C y fs (by rw [hm,e'])).1
          rw [q,e] at this; cases this
      · rcases hb with q' | ⟨C',fs',e'⟩
        · have:=(g.st.apart x C y fs e).1
          rw [q',hm] at this; cases this
        · exact hx ((g.st.apart a C' y fs' (by rw [hm,e'])).2 x C fs e)
  · unfold Store.set at e ⊢
    have key:∀ y C' fs',(if y=a then some mo' else σ y)=some (MObj.inst C' dx fs')→∃ fs'' C'',σ y=some (.inst C'' dx fs''):=fun y C' fs' e'=>by
      by_cases hy:y=a
      · rw [if_pos hy] at e'
        cases e'
        obtain ⟨C'',fs'',e''⟩:=(he dx).mp ⟨C',fs',rfl⟩
        exact ⟨fs'',C'',by rw [hy,hm,e'']⟩
      · rw [if_neg hy] at e'; exact ⟨fs',C',e'⟩
    obtain ⟨f1,C1,e1⟩:=key x C fs e
    obtain ⟨h1,h2⟩:=g.st.apart x C1 dx f1 e1
    refine ⟨?_,fun y C' fs' e'=>?_⟩
    · rw [if_neg (fun q:dx=a=>by rw [q,hm] at h1; cases h1)]; exact h1
    · obtain ⟨f2,C2,e2⟩:=key y C' fs' e'
      exact h2 y C2 f2 e2
theorem entS_get {N:Addr→Prop} {h:Heap} {name:Str} {d:D}:∀ {es:List DictEntry} {fs:List (Str×D)} {us:List Value},EntS es (fs.map (·.1)) us→RepL N h (fs.map (·.2)) us→getF name fs=some d→∃ v,getL name es=some (some v)∧Rep N h d v
  | [],[],_,_,_,e=>by cases e
  | e::es,[],_,x,_,_=>by simp [EntS] at x
  | [],f::fs,us,x,_,_=>by cases us <;> simp [EntS] at x
  | e :: es,(k,y)::fs,us,x,r,q=>by
    cases us with
    | nil=>simp [EntS] at x
    | cons v us=>
      simp only [List.map_cons,EntS] at x
      obtain ⟨⟨t,hk⟩,hv,x⟩:=x
      simp only [List.map_cons,RepL] at r
      obtain ⟨v',us',e',hr,r⟩:=r
      cases e'
      unfold getF at q
      by_cases hn:k=name
      · rw [if_pos hn] at q
        cases q
        refine ⟨v,?_,hr⟩
        unfold getL
        rw [List.find?_cons_of_pos (by rw [hk]; simpa [Value.isStr] using hn)]
        simp only [hv]
      · rw [if_neg hn] at q
        obtain ⟨w,h1,h2⟩:=entS_get x r q
        refine ⟨w,?_,h2⟩
        have hns:e.key.isStr name=false:=by rw [hk]; simpa [Value.isStr] using hn
        have hrk:e.refKey=false:=by unfold DictEntry.refKey; rw [hk]
        unfold getL at h1 ⊢
        rw [List.find?_cons_of_neg (by rw [hns]; exact Bool.false_ne_true),List.any_cons,hrk,Bool.false_or]
        exact h1
theorem entS_none {name:Str}:∀ {es:List DictEntry} {fs:List (Str×D)} {us:List Value},EntS es (fs.map (·.1)) us→getF name fs=Option.none→getL name es=some Option.none
  | [],[],_,_,_=>rfl
  | e::es,[],_,x,_=>by simp [EntS] at x
  | [],f::fs,us,x,_=>by cases us <;> simp [EntS] at x
  | e :: es,(k,y)::fs,us,x,q=>by
    cases us with
    | nil=>simp [EntS] at x
    | cons v us=>
      simp only [List.map_cons,EntS] at x
      obtain ⟨⟨t,hk⟩,hv,x⟩:=x
      unfold getF at q
      by_cases hn:k=name
      · rw [if_pos hn] at q; cases q
      · rw [if_neg hn] at q
        have h1:=entS_none x q
        have hns:e.key.isStr name=false:=by rw [hk]; simpa [Value.isStr] using hn
        have hrk:e.refKey=false:=by unfold DictEntry.refKey; rw [hk]
        unfold getL at h1 ⊢
        rw [List.find?_cons_of_neg (by rw [hns]; exact Bool.false_ne_true),List.any_cons,hrk,Bool.false_or]
        exact h1
theorem entS_some {es:List DictEntry} {fs:List (Str×D)} {us:List Value} {name:Str} {N:Addr→Prop} {h:Heap} (x:EntS es (fs.map (·.1)) us) (r:RepL N h (fs.map (·.2)) us):(getL name es).isSome=true:=by
  cases e:getF name fs with
  | none=>rw [entS_none x e]; rfl
  | some d=>obtain ⟨v,h1,_⟩:=entS_get x r e; rw [h1]; rfl
theorem entS_put {N:Addr→Prop} {h:Heap} {name:Str} {d:D} {v:Value} {hsh:Int} {t:Tok} (hd:Rep N h d v):∀ {es:List DictEntry} {fs:List (Str×D)} {us:List Value},EntS es (fs.map (·.1)) us→RepL N h (fs.map (·.2)) us→
    ∃ us',EntS (putL name hsh (.str name t) v es) ((putF name d fs).map (·.1)) us'∧RepL N h ((putF name d fs).map (·.2)) us'
  | [],[],us,x,r=>by
    refine ⟨[v],?_,RepL.one hd⟩
    simp only [putL,putF,List.map_cons,List.map_nil,EntS]
    exact ⟨⟨t,rfl⟩,trivial,trivial⟩
  | e::es,[],_,x,_=>by simp [EntS] at x
  | [],f::fs,us,x,_=>by cases us <;> simp [EntS] at x
  | e :: es,(k,y)::fs,us,x,r=>by
    cases us with
    | nil=>simp [EntS] at x
    | cons u us=>
      simp only [List.map_cons,EntS] at x
      obtain ⟨⟨tk,hk⟩,hv,x⟩:=x
      simp only [List.map_cons,RepL] at r
      obtain ⟨v',us',e',hr,r⟩:=r
      cases e'
      unfold putF putL
      by_cases hn:k=name
      · rw [if_pos hn,if_pos (by rw [hk]; simpa [Value.isStr] using hn)]
        refine ⟨v::us,?_,RepL.cons hd r⟩
        simp only [List.map_cons,EntS]
        exact ⟨⟨tk,hk⟩,trivial,x⟩
      · rw [if_neg hn,if_neg (by rw [hk]; simpa [Value.isStr] using hn)]
        obtain ⟨us',h1,h2⟩:=entS_put hd x r
        refine ⟨u::us',?_,RepL.cons hr h2⟩
        simp only [List.map_cons,EntS]
        exact ⟨⟨tk,hk⟩,hv,h1⟩
theorem putL_length (name:Str) (hsh:Int) (key v:Value):∀ es:List DictEntry,(putL name hsh key v es).length≤es.length+1
  | []=>Nat.le_refl _
  | e::r=>by
    unfold putL
    split
    · simp
    · simpa using putL_length name hsh key v r
theorem mem_putF {name:Str} {d:D} {y:Str}:∀ {fs:List (Str×D)},y∈(putF name d fs).map (·.1)→y∈fs.map (·.1)∨y=name
  | [],h=>by simpa [putF] using h
  | (k,x)::r,h=>by
    unfold putF at h
    split at h
    · left; simpa using h
    · simp only [List.map_cons,List.mem_cons] at h ⊢
      rcases h with h | h
      · exact .inl (.inl h)
      · exact (mem_putF h).imp .inr id
set_option tactic.hygienic true in
theorem nodup_putF {name:Str} {d:D}:∀ {fs:List (Str×D)},(fs.map (·.1)).Nodup→((putF name d fs).map (·.1)).Nodup
  | [],_=>by simp [putF]
  | (k,x)::r,h=>by
    simp only [List.map_cons,List.nodup_cons] at h
    unfold putF
    split
    · simp only [List.map_cons,List.nodup_cons]; exact h
    · rename_i hn
      simp only [List.map_cons,List.nodup_cons]
      exact ⟨fun q=>(mem_putF q).elim h.1 hn,nodup_putF h.2⟩
structure AttrOk (K:Frag) (C:Addr) (name:Str):Prop where
  get:plainGet K C name=true
  has:hasDictIn K C=true
  own:∃ attr,findIn K (.ref C) name=some attr∧noGet K attr=true
structure SetOk (K:Frag) (C:Addr) (name:Str):Prop where
  set:findIn K (.ref C) "__setattr__" = some (some (.builtin "object.__setattr__"))
  over:plainOver K C=true
  taker:takerIn K C name=some Option.none
  has:hasDictIn K C=true
structure MethOk (K:Frag) (C:Addr) (name:Str) (f:Addr):Prop where
  get:plainGet K C name=true
  fn:findIn K (.ref C) name=some (some (.ref f))
  isf:isFn K (.ref f)=true
  keep:keepIn K (.ref f)=true
structure NewOk (K:Frag) (C:Addr) (f:Addr):Prop where
  makes:makesIn K C=true
  init:findIn K (.ref C) "__init__" = some (some (.ref f))
  isf:isFn K (.ref f)=true
  keep:keepIn K (.ref C)=true
theorem kin (g:Good c nm vs env ρ σ P s):c.K.In s.heap:=c.KX.keeps g.base
theorem attr_sound {a C dx:Addr} {fs:List (Str×D)} {name:Str} {d:D} {expr:Bool} (g:Good c nm vs env ρ σ P s) (ha:AttrOk c.K C name) (hm:σ a=some (.inst C dx fs)) (hg:getF name fs=some d) (h:Φ d σ)
    (hQ:∀ v d σ' s',Φ d σ'→Step c.W noF σ σ' s s'→StoreOk σ' P s'.heap→Rep (nd σ' P) s'.heap d v→Q v s'):wpAny c.M A (getAttr (.ref a) name expr) Q E s:=by
  obtain ⟨n,es,us,h1,h2,h3,h4,h5,h6⟩:=g.st.rep a _ hm
  obtain ⟨v,hv,hr⟩:=entS_get h3 h5 hg
  obtain ⟨attr,ho,hn⟩:=ha.own
  have hnb:handedIn v=true:=by
    cases d <;> simp only [Rep] at hr
    · subst hr; rfl
    · subst hr; rfl
    · obtain ⟨t,rfl⟩:=hr; rfl
    · obtain ⟨t,rfl⟩:=hr; rfl
    · obtain ⟨b,_,rfl,_⟩:=hr; rfl
    · obtain ⟨b,_,rfl,_⟩:=hr; rfl
    · subst hr; rfl
  refine get_value (kin g) (od:=some (dictOf es n)) ⟨h1,rfl,rfl,h2⟩ (plainGet_of ha.get).1 (findObj_own ha.has ho hn hv) hnb ?_
  exact fin_keeps g hQ h (keeps_toks s _) hr
set_option tactic.hygienic true in
theorem setattr_sound {a C dx:Addr} {fs:List (Str×D)} {name:Str} {d:D} {v:Value} {Q:Unit→Shared→Prop} (g:Good c nm vs env ρ σ P s) (ha:SetOk c.K C name) (hm:σ a=some (.inst C dx fs)) (hl:fs.length≤900) (hv:Rep (nd σ P) s.heap d v)
    (hQ:∀ s',Step c.W noF σ (σ.set a (.inst C dx (putF name d fs))) s s'→StoreOk (σ.set a (.inst C dx (putF name d fs))) P s'.heap→Q () s'):wpAny c.M A (setAttr (.ref a) name v) Q E s:=by
  obtain ⟨n,es,us,h1,h2,h3,h4,h5,h6,h7⟩:=g.st.rep a _ hm
  have X:=kin g
  have hlen:es.length=fs.length:=by
    have:∀ {es:List DictEntry} {ks:List Str} {us:List Value},EntS es ks us→es.length=ks.length:=by
      intro es
      induction es with
      | nil=>intro ks us x; cases ks <;> cases us <;> simp [EntS] at x ⊢
      | cons e es ih=>intro ks us x; cases ks <;> cases us <;> simp [EntS] at x ⊢; exact ih x.2.2
    simpa using this h3
  have I:W.InstAt s.heap a ({ cls := .ref C,dict:=some dx,data := .plain }:Obj) C (some (dictOf es n)):=⟨h1,rfl,rfl,h2⟩
  refine set_plain X I ha.set ?_
  refine osa_open (s:={ s with toks:=s.toks+1 }) X I ha.over ha.taker fun b=>?_
  obtain ⟨cd,hc,hd'⟩:=any_some ha.has
  have X1:c.K.In ({ s with toks:=s.toks+1 }:Shared).heap:=X
  refine wpAny_bind (wpAny_pure (wpAny_bind (wpAny_bind (wpAny_loadPart h1 (wpAny_bind ((looks_clsIn X1 hc).here (s:={ s with toks:=s.toks+1 }) ?_))))))
  rw [hd']
  refine wpAny_pure (a:=some dx) (wpAny_bind (wpAny_pure (wpAny_bind ?_)))
  unfold nsSet
  refine wpAny_bind (wpAny_bind (wpAny_askSetting (wpAny_pure (wpAny_bind (wpAny_mkText (wpAny_bind (wpAny_loadPart h2 ?_)))))))
  dsimp only
  have c1:aRefKeyMayBeTheName name es.toArray=false:=by
    rw [aRefKeyMayBeTheName_at]
    have hs:=entS_some (name:=name) h3 h5
    unfold getL at hs
    rw [← Array.any_toList,← Array.any_toList]
    split at hs
    · rename_i en he
      rw [List.any_eq_true.mpr ⟨en,List.mem_of_find?_eq_some he,List.find?_some he⟩]; rfl
    · split at hs
      · cases hs
      · rename_i z; rw [Bool.not_eq_true] at z; rw [z,Bool.and_false]
  rw [c1]
  refine wpAny_updatePart h2 ?_
  have e1:Obj.putName name (PyData.keyHash c.w.params name) (.str name (s.toks+1)) v (dictOf es n)=dictOf (putL name (PyData.keyHash c.w.params name) (.str name (s.toks+1)) v es) (putN name es n):=putName_dict ..
  have h2':(s.heap.update dx (Obj.putName name (PyData.keyHash c.w.params name) (.str name (s.toks+1)) v)).get? dx=some (dictOf (putL name (PyData.keyHash c.w.params name) (.str name (s.toks+1)) v es) (putN name es n)):=by
    have:=Heap.get?_update_self (Obj.putName name (PyData.keyHash c.w.params name) (.str name (s.toks+1)) v) h2 (by rw [e1]; rfl)
    rw [e1] at this; exact this
  have hpl:=putL_length name (PyData.keyHash c.w.params name) (.str name (s.toks+1)) v es
  refine wpAny_bind (wpAny_lookBehind h2' (by exact pastItsLine_dict (by rw [List.size_toArray,sizeLine_eq]; omega)) ?_)
  refine wpAny_pure ?_
  have hsb:=Heap.SameBut.update s.heap dx (Obj.putName name (PyData.keyHash c.w.params name) (.str name (s.toks+1)) v)
  obtain ⟨st,ok⟩:=upd_gen (b:=dx) (mo' := .inst C dx (putF name d fs)) (tk:=s.toks+1+1) g hm (fun x=>⟨fun ⟨C',fs',e⟩=>by cases e; exact ⟨_,_,rfl⟩,fun ⟨C',fs',e⟩=>by cases e; exact ⟨_,_,rfl⟩⟩) (.inr ⟨C,fs,rfl⟩) hsb ⟨_,h2'⟩ fun sty=>by
    obtain ⟨us',q1,q2⟩:=entS_put (t:=s.toks+1) (hsh:=PyData.keyHash c.w.params name) hv h3 h5
    exact ⟨_,_,us',hsb.extBut a _ h7.symm h1,h2',q1,by omega,RepL.stay sty _ _ q2,nodup_putF h6,h7⟩
  exact hQ _ st ok
theorem method_sound {a C dx f:Addr} {fs:List (Str×D)} {name:Str} {pl:Sem Bool} {Q:Value×List Value→Shared→Prop} (g:Good c nm vs env ρ σ P s) (ha:MethOk c.K C name f) (hm:σ a=some (.inst C dx fs)) (hn:getF name fs=Option.none)
    (h:Q (.ref f,[.ref a]) s):wpAny c.M A (getMethod (.ref a) name pl) Q E s:=by
  obtain ⟨n,es,us,h1,h2,h3,h4,h5,h6⟩:=g.st.rep a _ hm
  refine method_fn (kin g) (od:=some (dictOf es n)) ⟨h1,rfl,rfl,h2⟩ (plainGet_of ha.get).1 (plainGet_of ha.get).2 ha.fn (beq_iff_eq.mp ha.isf) ?_ h
  show (lookIn name (dictOf es n)).map _=_
  rw [lookIn_dict,entS_none h3 hn]; rfl
end
end Mine
end
section
open PySem PySem.W PyProof.Rows
set_option Elab.async false
set_option maxRecDepth 100000
namespace Mine
theorem ext_dict {kvs kvs':List (Int×D)} {x:Addr}:ext (.mdict kvs') x ↔ ext (.mdict kvs) x:=by
  constructor <;> (rintro ⟨C,fs,e⟩; cases e)
noncomputable def LM.id:LM→String
  | .insert => "list.insert"
  | .pop => "list.pop"
  | .dpop => "dict.pop"
theorem dom_set_any {σ:Store} {a b:Addr} {mo:MObj}:dom (σ.set a mo) b→dom σ b∨b=a∨ext mo b:=by
  rintro (h | ⟨x,C,fs,h⟩)
  · unfold Store.set at h
    by_cases e:b=a
    · exact .inr (.inl e)
    · rw [if_neg e] at h; exact .inl (.inl h)
  · unfold Store.set at h
    by_cases e:x=a
    · rw [if_pos e] at h; cases h; exact .inr (.inr ⟨C,fs,rfl⟩)
    · rw [if_neg e] at h; exact .inl (.inr ⟨x,C,fs,h⟩)
section
variable {c:Cx} {A:Around} {nm:Nat→Str} {vs:List Nat} {env:Env} {ρ:PEnv} {σ:Store} {P:Addr→Prop} {s:Shared} {Q:Value→Shared→Prop} {E:Value→Shared→Prop} {Φ:D→Store→Prop}
theorem Good.not_dom (g:Good c nm vs env ρ σ P s) {a:Addr} (ha:s.heap.get? a=none):¬ dom σ a:=fun hd=>by obtain ⟨o,ho⟩:=g.st.alive hd; rw [ha] at ho; cases ho
theorem fresh_of_not_dom {σ:Store} {a:Addr} (nda:¬ dom σ a):freshIn σ a:=⟨by
    cases e:σ a with
    | none=>rfl
    | some m=>exact absurd (Or.inl (by rw [e]; exact Option.some_ne_none m)) nda,fun x C fs e=>nda (.inr ⟨x,C,fs,e⟩)⟩
theorem alloc_gen (g:Good c nm vs env ρ σ P s) {mo:MObj} {a:Addr} {s':Shared} (k:Keeps s s') (ha:s.heap.get? a=none) (hx:∀ x,ext mo x→s.heap.get? x=none∧x≠a)
    (hr:Stay (nd σ P) (nd (σ.set a mo) P) s.heap s'.heap→MRep (σ.set a mo) P s'.heap a mo) :
    Step c.W noF σ (σ.set a mo) s s'∧StoreOk (σ.set a mo) P s'.heap:=by
  have kh:=keeps_heap k
  have gone:∀ b,b=a∨ext mo b→s.heap.get? b=none:=fun b hb=>hb.elim (fun e=>e▸ha) fun e=>(hx b e).1
  have st:Stay (nd σ P) (nd (σ.set a mo) P) s.heap s'.heap:=fun b o hN ho _=>⟨kh b o ho,fun hd=>(dom_set_any hd).elim hN.1 (fun e=>by rw [gone b e] at ho; cases ho),hN.2⟩
  refine ⟨Step.mk' (Step.of_keeps (W:=c.W) (F:=noF) (σ:=σ) k).same (fun b o e _ _=>kh b o e) (fun b o e=>⟨o,kh b o e⟩) (fun b hb=>(dom_set_any hb).imp id (gone b)),⟨fun b m e=>?_,fun x C dx fs e=>?_,fun b hb=>?_⟩⟩
  · unfold Store.set at e
    by_cases hb:b=a
    · rw [if_pos hb] at e
      cases e
      subst hb
      exact hr st
    · rw [if_neg hb] at e
      exact (g.st.rep b m e).stay st fun b' o _ ho=>kh b' o ho
  · unfold Store.set at e ⊢
    have nda:=g.not_dom ha
    by_cases hxa:x=a
    · rw [if_pos hxa] at e; cases e
      obtain ⟨h1,h2⟩:=hx dx ⟨C,fs,rfl⟩
      have nd2:=fresh_of_not_dom (g.not_dom h1)
      refine ⟨by rw [if_neg h2]; exact nd2.1,fun y C' fs' e'=>?_⟩
      by_cases hy:y=a
      · exact hy.trans hxa.symm
      · rw [if_neg hy] at e'; exact absurd e' (nd2.2 y C' fs')
    · rw [if_neg hxa] at e
      obtain ⟨h1,h2⟩:=g.st.apart x C dx fs e
      have hdx:dom σ dx := .inr ⟨x,C,fs,e⟩
      refine ⟨?_,fun y C' fs' e'=>?_⟩
      · rw [if_neg (fun q:dx=a=>nda (q▸hdx))]; exact h1
      · by_cases hy:y=a
        · rw [if_pos hy] at e'
          cases e'
          exact absurd hdx (g.not_dom (hx dx ⟨C',fs',rfl⟩).1)
        · rw [if_neg hy] at e'; exact h2 y C' fs' e'
  · rcases dom_set_any hb with h | h
    · exact g.st.free b h
    · intro hp
      obtain ⟨o,ho⟩:=g.prot _ hp
      rw [gone b h] at ho; cases ho
theorem dct_sound (g:Good c nm vs env ρ σ P s) {p:Pos} (hbig:sysModules<s.heap.objs.size) (h:∀ a,freshIn σ a→Φ (.obj a) (σ.set a (.mdict [])))
    (hQ:∀ v d σ' s',Φ d σ'→Step c.W noF σ σ' s s'→StoreOk σ' P s'.heap→Rep (nd σ' P) s'.heap d v→Q v s'):wpAny c.M A (eval (.Dict [] [] p) env) Q E s:=by
  refine wpAny_Dict_empty ?_
  obtain ⟨st,ok⟩:=alloc_gen g (mo := .mdict []) (keeps_push' s ({ cls := .type "dict",data := .dict #[] }:Obj)) (get?_size_none _) (fun x ⟨C,fs,e⟩=>by cases e) fun sty=>
    ⟨0,[],[],Heap.get?_push_size _ rfl,by simp [EntI],RepL.nil,List.nodup_nil,Nat.ne_of_gt hbig⟩
  exact hQ _ (.obj _) _ _ (h _ (fresh_of_not_dom (g.not_dom (get?_size_none _)))) st ok (by simp [Rep])
theorem subd_sound {o i:D} {v u:Value} {value slice:Expr} (hs:∀ x y,subscripted slice false x y=operate [x,y] (getItem x y)) (g:Good c nm vs env ρ σ P s) (h:subdS o i σ Φ) (ha:Rep (nd σ P) s.heap o v) (hb:Rep (nd σ P) s.heap i u)
    (hQ:∀ v d σ' s',Φ d σ'→Step c.W noF σ σ' s s'→StoreOk σ' P s'.heap→Rep (nd σ' P) s'.heap d v→Q v s'):wpAny c.M A (subscriptTail value slice v u) Q E s:=by
  obtain ⟨a,kvs,k,x,rfl,hm,rfl,hk,h⟩:=h
  simp only [Rep] at ha hb
  subst ha
  obtain ⟨t,rfl⟩:=hb
  obtain ⟨us,ep,hlen,hd,hat,hr,hsm,hz⟩:=mdict_heap g hm
  obtain ⟨w,hw,hrw⟩:=zip_get hr hk
  refine tail_any hd.typeIs slot_dict_getitem.lookup (wpAny_getItem_of (intKind_is c.prog c.w k t) hd.mapOf hw ?_) (hs _ _)
  exact fin_keeps g hQ h (keeps_toks s _) hrw
theorem upd_dict (g:Good c nm vs env ρ σ P s) {a:Addr} {kvs kvs':List (Int×D)} {us':List Value} (hm:σ a=some (.mdict kvs)) {h':Heap} {tk:Nat} (hs:Heap.SameBut a s.heap h')
    (hd:h'.DictOf (intKind c.prog c.w) a ((kvs'.map (·.1)).zip us')) (hr:RepL (nd σ P) s.heap (kvs'.map (·.2)) us') (ha:(a==sysModules)=false) :
    Step c.W noF σ (σ.set a (.mdict kvs')) s { s with heap:=h',toks:=tk }∧StoreOk (σ.set a (.mdict kvs')) P h':=by
  refine upd_gen (b:=a) (mo := .mdict kvs) (mo' := .mdict kvs') g hm (fun x=>ext_dict) (.inl rfl) hs ?_ fun sty=>?_
  · obtain ⟨o,_,_,ho,_⟩:=hd; exact ⟨o,ho⟩
  · exact mrep_of_dictOf hd (RepL.stay sty _ _ hr) (by simpa using ha)
theorem set_plain_item {l:Addr} {items:Array Value} {k:Int} {t:Tok} {v:Value} {Q:Unit→Shared→Prop} (hl:s.heap.PlainList l items) (h0:0≤k) (hfit:k<2 ^ 63) (hn:k<items.size)
    (hQ:∀ h',h'.PlainList l (items.setIfInBounds k.toNat v)→Heap.SameBut l s.heap h'→Q () { s with heap:=h' }):wpAny c.M A (setItem (.ref l) (.int k t) v) Q E s:=by
  have hL:=hl.isList
  obtain ⟨ne,ho⟩:=hl
  unfold setItem
  refine wpAny_holding ?_
  refine wpAny_bind (wpAny_sequenceKey hL.typeIs (by decide) ?_)
  refine wpAny_bind (wpAny_callSpecial?_slot (name:=Str.ofString "__setitem__") hL.typeIs slot_list_setitem
    (wpAny_call_entry slot_list_setitem hL.typeIs entry_list_setitem ?_ (args_list_setitem _ _ _)))
  show wpAny _ _ (Builtin.List.listSubscript? (.int k t) >>= _) _ _ s
  refine wpAny_bind (wpAny_listSubscript_int (fitsIndex_of h0 hfit) ?_)
  clear hfit
  obtain ⟨j,rfl⟩:=Int.eq_ofNat_of_zero_le h0
  have hj:j<items.size:=by omega
  have hx':items[j]?=some items[j]:=Array.getElem?_eq_getElem hj
  show wpAny _ _ ((seqItemAt l j >>= fun r=>pure (r.map (j,·))) >>= _) _ _ s
  refine wpAny_bind (wpAny_bind (wpAny_seqItemAt ho rfl (wpAny_pure ?_)))
  rw [hx']
  show wpAny _ _ (setSeqItemAt l j v >>= _) _ _ s
  have hfin:(s.heap.update l (Obj.mapSeq (·.setIfInBounds j v))).PlainList l (items.setIfInBounds j v):=⟨_,get?_update_seq ho _⟩
  refine wpAny_bind (wpAny_setSeqItemAt ho rfl ?_)
  exact wpAny_pure ⟨.none,rfl,wpAny_pure (hQ _ hfin (Heap.SameBut.update ..))⟩
theorem repL_set {N:Addr→Prop} {h:Heap} {d:D} {v:Value} (hd:Rep N h d v):∀ {ds:List D} {us:List Value} {i:Nat},RepL N h ds us→RepL N h (ds.set i d) (us.set i v)
  | [],us,i,x=>by simp only [RepL] at x; subst x; simp [RepL]
  | e::ds,us,0,x=>by
    simp only [RepL] at x
    obtain ⟨u,r,rfl,h1,h2⟩:=x
    exact RepL.cons hd h2
  | e::ds,us,i+1,x=>by
    simp only [RepL] at x
    obtain ⟨u,r,rfl,h1,h2⟩:=x
    exact RepL.cons h1 (repL_set hd h2)
set_option tactic.hygienic true in
theorem sto_sound {o i d:D} {v u x:Value} {K:Store→Prop} {Q:Unit→Shared→Prop} (g:Good c nm vs env ρ σ P s) (h:stoS o i d σ K) (ho:Rep (nd σ P) s.heap o v) (hi:Rep (nd σ P) s.heap i u) (hd:Rep (nd σ P) s.heap d x)
    (hQ:∀ σ' s',K σ'→Step c.W noF σ σ' s s'→StoreOk σ' P s'.heap→Q () s'):wpAny c.M A (setItem v u x) Q E s:=by
  unfold stoS at h
  split at h
  · rename_i j
    simp only [Rep] at hi
    obtain ⟨t,rfl⟩:=hi
    rcases h with ⟨a,xs,rfl,hm,h0,h1,hn,h⟩ | ⟨a,kvs,rfl,hm,hn,h⟩
    · simp only [Rep] at ho; subst ho
      obtain ⟨us,hl,hw⟩:=g.st.rep a _ hm
      have el:=hw.length
      simp only [Array.length_toList] at el
      have:=small_63 hn
      refine set_plain_item hl h0 (by omega) (by omega) fun h' hl' hs'=>?_
      obtain ⟨st,ok⟩:=upd_mut (tk:=s.toks) g hm hs' hl' (ys:=xs.set j.toNat d) (by
        rw [Array.toList_setIfInBounds]
        exact repL_set hd hw)
      exact hQ _ _ h st ok
    · simp only [Rep] at ho; subst ho
      obtain ⟨us,ep,hlen,hdd,hat,hr,hsm,hz⟩:=mdict_heap g hm
      refine wpAny_setItem_pairs (intKind_is c.prog c.w j t) hdd (fun h' hd' hs'=>?_) (by rw [hz]; have:=sizeLine_small; omega)
      obtain ⟨us',q1,q2⟩:=zip_putR (k:=j) hd hr
      have hnd:(((kvs.map (·.1)).zip us).map (·.1)).Nodup:=by
        obtain ⟨_,_,_,_,_,_,_,_,hn'⟩:=hdd; exact hn'
      rw [stored_putR j x _ hnd,q2] at hd'
      obtain ⟨st,ok⟩:=upd_dict (tk:=s.toks+1) g hm hs' hd' q1 hsm
      exact hQ _ _ h st ok
  · exact h.elim
theorem repL_erase {N:Addr→Prop} {h:Heap}:∀ {ds:List D} {us:List Value} {i:Nat},RepL N h ds us→RepL N h (ds.eraseIdx i) (us.eraseIdx i)
  | [],us,i,x=>by simp only [RepL] at x; subst x; simp [RepL]
  | e::ds,us,0,x=>by
    simp only [RepL] at x
    obtain ⟨u,r,rfl,h1,h2⟩:=x
    exact h2
  | e::ds,us,i+1,x=>by
    simp only [RepL] at x
    obtain ⟨u,r,rfl,h1,h2⟩:=x
    exact RepL.cons h1 (repL_erase h2)
theorem lm_sound {k:LM} {d:D} {ds:List D} {v:Value} {us:List Value} (g:Good c nm vs env ρ σ P s) (h:lmS k d ds σ Φ) (hd:Rep (nd σ P) s.heap d v) (hr:RepL (nd σ P) s.heap ds us)
    (hQ:∀ v d σ' s',Φ d σ'→Step c.W noF σ σ' s s'→StoreOk σ' P s'.heap→Rep (nd σ' P) s'.heap d v→Q v s'):wpAny c.M A (call (.builtin k.id) (v::us)) Q E s:=by
  cases k with
  | insert=>
    obtain ⟨i',e,v',u,rfl,hi',hu,h⟩:=two_elim h hr
    obtain ⟨i,t,rfl,h⟩:=intK_elim h hi'
    obtain ⟨a,xs,rfl,hm,h0,h1,hn,h⟩:=h
    obtain rfl:v = .ref a:=hd
    obtain ⟨items,⟨n,ho⟩,hw⟩:=g.st.rep a _ hm
    have el:=hw.length
    simp only [Array.length_toList] at el
    have:=small_63 hn
    have hf:¬(!Builtin.List.listFitsIndex i)=true:=by
      unfold Builtin.List.listFitsIndex
      have a1:(-(2 ^ 63:Int)≤i):=by omega
      have a2:i<2 ^ 63:=by omega
      simp only [a1,a2,decide_true,Bool.and_self,Bool.not_true,Bool.false_eq_true,not_false_eq_true]
    refine call_meets PySem.F.slot_list_insert ⟨_,ho,rfl⟩ PySem.F.entry_list_insert (PySem.F.args_list_insert_3 _ _ _) (AutoListH.list_insert_list_int_val_1 a items n i t u hf (by have:=sizeLine_small; omega)) ⟨ho,?_⟩
    have hk:(if i<0 then (i+((items.size:Nat):Int)).toNat else min i.toNat items.size)=i.toNat:=by rw [if_neg (by omega)]; omega
    have hs:=Heap.SameBut.update s.heap a (Obj.mapSeq fun xs=>(xs.extract 0 (if i<0 then (i+((xs.size:Nat):Int)).toNat else min i.toNat xs.size)).push u++xs.extract (if i<0 then (i+((xs.size:Nat):Int)).toNat else min i.toNat xs.size))
    have hg:=get?_update_seq ho (fun xs=>(xs.extract 0 (if i<0 then (i+((xs.size:Nat):Int)).toNat else min i.toNat xs.size)).push u++xs.extract (if i<0 then (i+((xs.size:Nat):Int)).toNat else min i.toNat xs.size))
    obtain ⟨st,ok⟩:=upd_mut (tk:=s.toks) g hm hs ⟨_,hg⟩ (ys:=xs.take i.toNat++e::xs.drop i.toNat) (by
      rw [hk]
      have e1:((items.extract 0 i.toNat).push u++items.extract i.toNat).toList=items.toList.take i.toNat++(u::items.toList.drop i.toNat):=by
        simp [Array.toList_append,List.extract_eq_take_drop]
        exact List.take_of_length_le (by simp)
      rw [e1]
      exact RepL.append (hw.take _) (RepL.cons hu (hw.drop _)))
    exact hQ _ .none _ _ h st ok rep_none
  | pop=>
    obtain ⟨i',v',rfl,hi',h⟩:=one_elim h hr
    obtain ⟨i,t,rfl,h⟩:=intK_elim h hi'
    obtain ⟨a,xs,e,rfl,hm,h0,he,hn,h⟩:=h
    obtain rfl:v = .ref a:=hd
    obtain ⟨items,⟨n,ho⟩,hw⟩:=g.st.rep a _ hm
    have el:=hw.length
    simp only [Array.length_toList] at el
    have:=small_63 hn
    obtain ⟨y,hy,hry⟩:=hw.get he
    have hlt:i.toNat<items.size:=by
      obtain ⟨hlt,_⟩:=List.getElem?_eq_some_iff.mp hy
      simpa using hlt
    have hf:Builtin.List.listFitsIndex i=true:=by
      unfold Builtin.List.listFitsIndex
      have a1:(-(2 ^ 63:Int)≤i):=by omega
      have a2:i<2 ^ 63:=by omega
      simp only [a1,a2,decide_true,Bool.and_self]
    have hi:seqIndex? i items.size=some i.toNat:=by
      unfold seqIndex?
      rw [if_neg (by omega:¬ i<0)]
      have a1:0≤i:=h0
      have a2:i<(items.size:Int):=by omega
      simp only [a1,a2,decide_true,Bool.and_self,if_true]
    refine call_meets PySem.F.slot_list_pop ⟨_,ho,rfl⟩ PySem.F.entry_list_pop (PySem.F.args_list_pop_2 _ _) (MeetsSeq.list_pop_at a items n i t i.toNat y hf hi (by simpa using hy) (by have:=sizeLine_small; omega)) ⟨ho,?_⟩
    have hs:=Heap.SameBut.update s.heap a (Obj.mapSeq fun xs=>xs.eraseIdxIfInBounds i.toNat)
    have hg:=get?_update_seq ho (fun xs=>xs.eraseIdxIfInBounds i.toNat)
    obtain ⟨st,ok⟩:=upd_mut (tk:=s.toks) g hm hs ⟨_,hg⟩ (ys:=xs.eraseIdx i.toNat) (by
      rw [Array.eraseIdxIfInBounds,dif_pos hlt,Array.toList_eraseIdx]
      exact repL_erase hw)
    exact hQ _ e _ _ h st ok (Rep.stay (st.stay g.wp) _ _ hry)
  | dpop=>
    obtain ⟨i',v',rfl,hi',h⟩:=one_elim h hr
    obtain ⟨i,t,rfl,h⟩:=intK_elim h hi'
    obtain ⟨a,kvs,e,rfl,hm,he,hn,h⟩:=h
    obtain rfl:v = .ref a:=hd
    obtain ⟨ws,ep,hlen,hdd,hat,hr,hsm,hz⟩:=mdict_heap g hm
    obtain ⟨y,hy,hry⟩:=zip_get hr he
    refine call_meetsIn PySem.F.slot_dict_pop hdd.typeIs PySem.F.entry_dict_pop (PySem.F.args_dict_pop_2 _ _) (meets_dict_pop_there (intKind c.prog c.w) a (hkey:=intKind_is c.prog c.w i t) (rest:=[]) (hrest := .inl rfl) (hpart:=rfl)) ⟨_,y,hdd,by rw [hz]; have:=sizeLine_small; omega,hy,fun h' hd' hs'=>?_⟩
    obtain ⟨us',q1,q2⟩:=zip_del (k:=i) hr
    rw [q2] at hd'
    obtain ⟨st,ok⟩:=upd_dict (tk:=s.toks+1) g hm hs' hd' q1 hsm
    exact hQ _ e _ _ h st ok (Rep.stay (st.stay g.wp) _ _ hry)
theorem lm_method {k:LM} {d:D} {v:Value} {pl:Sem Bool} {Q:Value×List Value→Shared→Prop} (g:Good c nm vs env ρ σ P s) (h:lmOk k d σ) (hd:Rep (nd σ P) s.heap d v)
    (hQ:Q (.builtin k.id,[v]) s):wpAny c.M A (getMethod v (Str.ofString k.name) pl) Q E s:=by
  cases k with
  | insert=>
    obtain ⟨a,xs,rfl,hm⟩:=h
    simp only [Rep] at hd; subst hd
    obtain ⟨us,⟨n,ho⟩,_⟩:=g.st.rep a _ hm
    exact getMethod_builtin ⟨_,ho,rfl⟩ PySem.F.plainAttrs_list PySem.F.slot_list_insert PySem.F.type_list_insert (fun b e=>by cases e; exact ⟨_,ho,rfl⟩) hQ
  | pop=>
    obtain ⟨a,xs,rfl,hm⟩:=h
    simp only [Rep] at hd; subst hd
    obtain ⟨us,⟨n,ho⟩,_⟩:=g.st.rep a _ hm
    exact getMethod_builtin ⟨_,ho,rfl⟩ PySem.F.plainAttrs_list PySem.F.slot_list_pop PySem.F.type_list_pop (fun b e=>by cases e; exact ⟨_,ho,rfl⟩) hQ
  | dpop=>
    obtain ⟨a,kvs,rfl,hm⟩:=h
    simp only [Rep] at hd; subst hd
    obtain ⟨us,hl,hdd,hr,hsm,hnd,o,ho,hno⟩:=dictOf_of_mrep (prog:=c.prog) (w:=c.w) (g.st.rep a _ hm)
    exact getMethod_builtin hdd.typeIs PySem.F.plainAttrs_dict PySem.F.slot_dict_pop PySem.F.type_dict_pop (fun b e=>by cases e; exact ⟨o,ho,hno⟩) hQ
end
end Mine
end
section
open PySem PySem.W PyProof.Rows
set_option Elab.async false
namespace Mine
noncomputable def isFl (h:Heap) (a:Addr):Bool:=match h.get? a with
  | some o=>(match o.data with | .fields _=>true | _=>false)
  | none=>false
structure Kp (h₀:Heap) (l:List Env) (h h':Heap):Prop where
  keep:∀ a o,h.get? a=some o→(∃ o₀,h₀.get? a=some o₀)∨isFl h a=false→¬ WL l a→h'.get? a=some o
  slot:∀ a o,h.get? a=some o→WL l a→∃ sl,h'.get? a=some { o with slots:=sl }
noncomputable def fra (l:List Env):List Addr:=l.filterMap (·.frame)
theorem mem_fra {l:List Env} {a:Addr}:a∈fra l ↔ WL l a:=by
  unfold fra WL
  rw [List.mem_filterMap]
noncomputable def bas (h₀:Heap) (l:List Env) (h:Heap):Heap:=hideAll h ((List.range h.objs.size).filter fun a=>((h₀.get? a).isNone&&isFl h a) || (fra l).contains a)
theorem bas_of {h₀ h:Heap} {l:List Env} {a:Addr} {o:Obj} (e:(bas h₀ l h).get? a=some o):h.get? a=some o:=of_hideAll _ e
theorem bas_get {h₀ h:Heap} {l:List Env} {a:Addr} {o:Obj} (e:h.get? a=some o) (h0:(∃ o₀,h₀.get? a=some o₀)∨isFl h a=false) (hw:¬ WL l a):(bas h₀ l h).get? a=some o:=by
  refine hideAll_get _ e fun hm=>?_
  have:=(List.mem_filter.mp hm).2
  have q:((h₀.get? a).isNone&&isFl h a)=false:=by
    rcases h0 with ⟨o₀,e0⟩ | e0
    · rw [e0]; rfl
    · rw [e0,Bool.and_false]
  rw [q,Bool.false_or,List.contains_iff_mem] at this
  exact hw (mem_fra.mp this)
theorem bas_none {h₀ h:Heap} {l:List Env} {a:Addr} (x:(h₀.get? a=none∧isFl h a=true)∨WL l a):(bas h₀ l h).get? a=none:=by
  cases e:h.get? a with
  | none=>
    cases q:(bas h₀ l h).get? a with
    | none=>rfl
    | some o=>rw [bas_of q] at e; cases e
  | some o=>
    refine hideAll_none _ (List.mem_filter.mpr ⟨List.mem_range.mpr (Heap.lt_size e),?_⟩)
    rcases x with ⟨x,y⟩ | x
    · rw [x,y]; rfl
    · simp only [Bool.or_eq_true,List.contains_iff_mem]
      exact .inr (mem_fra.mpr x)
theorem isFl_of {h:Heap} {a:Addr} {o:Obj} {vs:Array Value} (e:h.get? a=some o) (hd:o.data = .fields vs):isFl h a=true:=by unfold isFl; rw [e]; dsimp only; rw [hd]
set_option tactic.hygienic true in
theorem isFl_not {h:Heap} {a:Addr} {o:Obj} (e:h.get? a=some o) (hd:∀ vs,o.data ≠ .fields vs):isFl h a=false:=by
  unfold isFl
  rw [e]
  dsimp only
  split
  · rename_i vs q; exact absurd q (hd vs)
  · rfl
theorem bas_frames {h₀ h:Heap} {l:List Env} (x:Frs h l):∀ {l':List Env},(∀ e∈l',e∈l)→h.FunFrames (bas h₀ l h) l'
  | [],_=>trivial
  | env::r,hs=>by
    obtain ⟨k,L,o,h1,h2,h3⟩:=x env (hs env List.mem_cons_self)
    exact ⟨k,⟨L,o,h1,bas_none (.inr ⟨env,hs env List.mem_cons_self,h1⟩),h2,h3⟩,bas_frames x fun e he=>hs e (List.mem_cons_of_mem _ he)⟩
theorem kp_of {h₀ h h':Heap} {l:List Env} (fr:Frs h l) (k:(bas h₀ l h).StaysIn h') (sl:∀ b o,h.get? b=some o→(∀ vs,o.data ≠ .fields vs)→∃ sl,h'.get? b=some { o with slots:=sl }):Kp h₀ l h h':=
  ⟨fun a o e h0 hw=>k a o (bas_get e h0 hw),fun a o e hw=>by
    obtain ⟨x,hx,hf⟩:=hw
    obtain ⟨_,L,o',h1,h2,h3⟩:=fr x hx
    rw [hf] at h1; cases h1
    rw [e] at h2; cases h2
    exact sl a o e h3⟩
theorem traced_bas {h₀ h:Heap} {l:List Env} {e:Addr} {cls a0 fl:Value} (x:h.TracedAtW h₀ e cls a0 fl):h.TracedAtW (bas h₀ l h) e cls a0 fl:=by
  obtain ⟨oe,vs,T,oT,ts,h1,h2,h3,h4,h5,h6⟩:=x
  exact ⟨oe,vs,T,oT,ts,h1,h2,h3,h4,bas_none (.inl ⟨h5,isFl_of h6.2.1 h6.2.2.1⟩),h6⟩
section
variable {M:Model} {A:Around} {E:Value→Shared→Prop} {s:Shared} {h₀:Heap} {env:Env} {r:List Env} {L e C:Addr} {Q:Unit→Shared→Prop}
theorem Fly.elder {l:List Env} {h₀ h₁ h:Heap} {e C:Addr} (x:Fly l h₁ e C h) (k:∀ a o,h₀.get? a=some o→∃ o',h₁.get? a=some o'):Fly l h₀ e C h:=by
  have back:∀ a,h₁.get? a=Option.none→h₀.get? a=Option.none:=fun a ha=>by
    cases q:h₀.get? a with
    | none=>rfl
    | some o=>obtain ⟨o',e'⟩:=k a o q; rw [ha] at e'; cases e'
  refine ⟨back e x.1,x.2.imp (fun ⟨h₂,vs,hm,hl⟩=>⟨h₂,vs,hm,fun a o e=>by obtain ⟨o',e'⟩:=k a o e; exact hl a o' e'⟩) fun ⟨a0,fl,⟨oe,vs,T,oT,ts,h1,h2,h3,h4,h5,h6⟩,hf⟩=>⟨a0,fl,⟨oe,vs,T,oT,ts,h1,h2,h3,h4,back T h5,h6⟩,hf⟩⟩
noncomputable def Held (l:List Env) (h₀:Heap) (e C:Addr) (h:Heap):Prop:=h₀.get? e=none∧∃ env r L a0,l=env::r∧env.frame=some L∧h.TracedAtW h₀ e (.ref C) a0 (rawInt L)
theorem Held.fly {l:List Env} {h:Heap} (x:Held l h₀ e C h):Fly l h₀ e C h:=by
  obtain ⟨h0,env,r,L,a0,rfl,hf,ht⟩:=x
  exact ⟨h0,.inr ⟨a0,_,ht,.inr ⟨env,r,L,rfl,hf,rfl⟩⟩⟩
theorem traced_back {h h':Heap} {l:List Env} {cls a0 fl:Value} (x:h'.TracedAtW (bas h₀ l h) e cls a0 fl) (hl:∀ a o,h₀.get? a=some o→∃ o',h.get? a=some o') (hw:∀ T,WL l T→∃ o,h.get? T=some o∧∀ vs,o.data ≠ .fields vs)
    (hk:∀ a o,h.get? a=some o→(∀ vs,o.data ≠ .fields vs)→∃ sl,h'.get? a=some { o with slots:=sl }):h'.TracedAtW h₀ e cls a0 fl:=by
  obtain ⟨oe,vs,T,oT,ts,h1,h2,h3,h4,h5,h6,h7,h8,h9⟩:=x
  refine ⟨oe,vs,T,oT,ts,h1,h2,h3,h4,?_,h6,h7,h8,h9⟩
  cases q:h₀.get? T with
  | none=>rfl
  | some o=>
    exfalso
    obtain ⟨o',e'⟩:=hl T o q
    by_cases hT:WL l T
    · obtain ⟨oT',e1,e2⟩:=hw T hT
      obtain ⟨sl,e3⟩:=hk T oT' e1 e2
      rw [h7] at e3; cases e3
      exact e2 ts h8
    · rw [bas_get e' (.inl ⟨o,q⟩) hT] at h5; cases h5
theorem frs_w {h:Heap} {l:List Env} (fr:Frs h l):∀ T,WL l T→∃ o,h.get? T=some o∧∀ vs,o.data ≠ .fields vs:=fun T ⟨x,hx,hf⟩=>by
  obtain ⟨_,L,o,h1,h2,h3⟩:=fr x hx
  rw [hf] at h1; cases h1
  exact ⟨o,h2,h3⟩
theorem stays_bas {h:Heap} {l:List Env}:(bas h₀ l h).StaysIn h:=fun _ _ e=>bas_of e
theorem note_any (hfr:A.frames=some (env::r)) (hf:env.frame=some L) (fr:Frs s.heap (env::r)) (hl:∀ a o,h₀.get? a=some o→∃ o',s.heap.get? a=some o') (x:Fly (env::r) h₀ e C s.heap)
    (hQ:∀ h',Held (env::r) h₀ e C h'→Kp h₀ (env::r) s.heap h'→Q () { s with heap:=h' }):wpAny M A (noteFrame (.ref e) env) Q E s:=by
  have ff:=bas_frames (h₀:=h₀) fr (l':=env::r) fun _ h=>h
  have fin:∀ h' a0,Heap.NotedW (bas h₀ (env::r) s.heap) (env::r) e (.ref C) a0 (rawInt L) s.heap h'→Q () { s with heap:=h' }:=fun h' a0 ⟨k1,k2,k3,k4⟩=>
    hQ h' ⟨x.1,env,r,L,a0,rfl,hf,traced_back k3 hl (frs_w fr) k4⟩ (kp_of fr k1 k4)
  have hfe:isFl s.heap e=true:=by
    rcases x.2 with ⟨h₁,vs,hm,_⟩ | ⟨a0,fl,⟨oe,vs,T,oT,ts,h1,h2,h3,_⟩,_⟩
    · obtain ⟨t,h1,h2,h3⟩:=hm.there
      exact isFl_of h1 rfl
    · exact isFl_of h1 h3
  have he:=bas_none (l:=env::r) (h:=s.heap) (.inl ⟨x.1,hfe⟩)
  rcases x.2 with ⟨h₁,vs,hm,_⟩ | ⟨a0,fl,ht,rfl | ⟨env',r',L',q,hf',rfl⟩⟩
  · obtain ⟨t,h1,h2,h3⟩:=hm.there
    unfold noteFrame
    simp only [hf]
    refine wpAny_bind (wpAny_field h1 rfl (x := .none) rfl ?_)
    rw [if_neg (by decide)]
    exact wpAny_entryW hfr ff hf h1 stays_bas he rfl (by simp) rfl fun h' hN=>fin h' _ hN
  · exact wpAny_noteFrame_onW hfr ff hf (traced_bas ht) stays_bas he fun h' hN=>fin h' _ hN
  · cases q
    rw [hf] at hf'; cases hf'
    exact wpAny_noteFrame_againW hf ht (hQ s.heap ⟨x.1,env,r,L,a0,rfl,hf,ht⟩ ⟨fun a o e _ _=>e,fun a o e _=>⟨o.slots,e⟩⟩)
theorem came_any (hf:env.frame=some L) (fr:Frs s.heap (env::r)) (x:Held (env::r) h₀ e C s.heap)
    (hQ:∀ h',Held (env::r) h₀ e C h'→Kp h₀ (env::r) s.heap h'→E (.ref e) { s with heap:=h' }):cameBackBy M A env E (.ref e) s:=by
  obtain ⟨h0,env',r',L',a0,q,hf',oe,vs,T,oT,ts,h1,h2,h3,h4,h5,h6,h7,h8,h9⟩:=x
  cases q
  rw [hf] at hf'; cases hf'
  unfold cameBackBy
  refine wpAny_bind (wpAny_field h1 h3 h4 ?_)
  rw [if_neg (by simp)]
  unfold setFlight
  refine wpAny_bind (wpAny_field h1 h3 h4 ?_)
  rw [if_pos (show (Value.ref T != Value.none)=true from by simp),hf]
  refine wpAny_setField h7 h8 (Array.getElem?_eq_some_iff.mp h9).1 ?_
  have other:∀ b,b≠T→(s.heap.update T (Obj.mapFields (·.setIfInBounds 3 (rawInt L)))).get? b=s.heap.get? b:=fun b hb=>Heap.get?_update_other _ _ (Ne.symm hb)
  refine hQ _ ⟨h0,env,r,L,a0,rfl,hf,oe,vs,T,_,_,(other e (Ne.symm h6)).trans h1,h2,h3,h4,h5,h6,Heap.get?_update_self _ h7 (Obj.isFreed_of_fields (Obj.data_mapFields h8 _)),Obj.data_mapFields h8 _,by simp [(Array.getElem?_eq_some_iff.mp h9).1]⟩ ⟨fun a o e' h0' hw=>?_,fun a o e' hw=>?_⟩
  · refine (other a fun q=>?_).trans e'
    rcases h0' with ⟨o₀,e0⟩ | e0
    · rw [q,h5] at e0; cases e0
    · rw [q,isFl_of h7 h8] at e0; cases e0
  · refine ⟨o.slots,(other a fun q=>?_).trans e'⟩
    subst q
    obtain ⟨o2,e2,e3⟩:=frs_w fr a hw
    rw [h7] at e2; cases e2
    exact e3 ts h8
end
end Mine
end
section
open PySem PyProof.Rows
set_option Elab.async false
namespace Mine
noncomputable def Res.sto:Res→Store
  | .next _ σ=>σ
  | .ret _ σ=>σ
  | .brk _ σ=>σ
  | .cont _ σ=>σ
noncomputable def ResOk (c:Cx) (nm:Nat→Str) (vs:List Nat) (env:Env) (P:Addr→Prop):Res→Flow→Shared→Prop
  | .next ρ σ,f,s=>f = .next∧Good c nm vs env ρ σ P s
  | .cont ρ σ,f,s=>f = .cont∧Good c nm vs env ρ σ P s
  | .brk ρ σ,f,s=>f = .brk∧Good c nm vs env ρ σ P s
  | .ret d σ,f,s=>∃ v,f = .ret v∧StoreOk σ P s.heap∧Rep (nd σ P) s.heap d v∧∃ m,s.heap.Ns env.locals m
noncomputable def WPs (c:Cx) (A:Around) (nm:Nat→Str) (vs:List Nat) (env:Env) (ρ:PEnv) (σ:Store) (t:Sem Flow) (Φ:Res→Prop):Prop:=
  ∀ P s,Good c nm vs env ρ σ P s→∀ (Q:Flow→Shared→Prop),
    (∀ f s' r,Φ r→Step c.W (FrA env) σ r.sto s s'→ResOk c nm vs env P r f s'→Q f s')→wpAny c.M A t Q c.E s
set_option tactic.hygienic true in
theorem ns_unique {h:Heap} {a:Addr} {m m':Str→Option Value} (x:h.Ns a m) (y:h.Ns a m'):m=m':=by
  obtain ⟨o,es,ep,ho,hd,_,hf⟩:=x
  obtain ⟨o',es',ep',ho',hd',_,hf'⟩:=y
  rw [ho] at ho'; cases ho'
  rw [hd] at hd'; cases hd'
  funext n
  rw [← hf,← hf']
theorem not_still {o:Obj} (h:(∀ items n,o.data ≠ .seq items n)∧∀ fs,o.data ≠ .fields fs):¬ still o:=fun ⟨_,_,e⟩=>h.1 _ _ e
theorem not_still' {o:Obj} {ws:Array Value} (hd:o.data = .fields ws):¬ still o:=fun ⟨_,_,e⟩=>by rw [hd] at e; cases e
theorem kp_step {l:List Env} {F:Addr→Prop} {σ σ':Store} {s s':Shared} {h'':Heap} (st:Step (WL l) F σ σ' s s') (k:Kp s.heap l s'.heap h''):Step (WL l) F σ σ' s { s' with heap:=h'' }:=by
  refine ⟨?_,fun a o e hd hf hw=>k.keep a o (st.keep a o e hd hf hw) (.inl ⟨o,e⟩) hw,fun a o e hw hd hf=>?_,fun a o e=>?_,st.new⟩
  · obtain ⟨h₁,t₁,rfl⟩:=st.same
    exact ⟨h'',t₁,rfl⟩
  · obtain ⟨sl,e'⟩:=st.slot a o e hw hd hf
    obtain ⟨sl',e''⟩:=k.slot a _ e' hw
    exact ⟨sl',e''⟩
  · obtain ⟨o',e'⟩:=st.alive a o e
    by_cases hw:WL l a
    · obtain ⟨sl,e''⟩:=k.slot a o' e' hw
      exact ⟨_,e''⟩
    · exact ⟨o',k.keep a o' e' (.inl ⟨o,e⟩) hw⟩
theorem kp_store {l:List Env} {σ:Store} {P:Addr→Prop} {h₀ h h'':Heap} (ok:StoreOk σ P h) (k:Kp h₀ l h h'') (hw:∀ a,WL l a→P a):StoreOk σ P h'':=by
  have st:Stay (nd σ P) (nd σ P) h h'':=fun a o hN ho ⟨items,n,hd⟩=>⟨k.keep a o ho (.inr (isFl_not ho fun vs q=>by rw [hd] at q; cases q)) (fun q=>hN.2 (hw a q)),hN⟩
  refine ⟨fun a mo e=>?_,ok.apart,ok.free⟩
  have hda:dom σ a := .inl (by rw [e]; exact Option.some_ne_none _)
  have x:=ok.rep a mo e
  refine x.stay st fun b o hb ho=>k.keep b o ho (.inr (isFl_not ho ?_)) (fun q=>?_)
  · intro vs q
    rcases hb with rfl | ⟨C,fs,rfl⟩
    · cases mo with
      | mlist ds=>obtain ⟨us,⟨n,h2⟩,_⟩:=x; rw [ho] at h2; cases h2; cases q
      | inst C dx fs=>obtain ⟨n,es,us,h2,_⟩:=x; rw [ho] at h2; cases h2; cases q
      | mdict kvs=>obtain ⟨n,es,us,h2,_⟩:=x; rw [ho] at h2; cases h2; cases q
    · obtain ⟨n,es,us,_,h2,_⟩:=x
      rw [ho] at h2; cases h2; cases q
  · rcases hb with rfl | ⟨C,fs,rfl⟩
    · exact ok.free b hda (hw b q)
    · exact ok.free b (.inr ⟨a,C,fs,e⟩) (hw b q)
section
variable {c:Cx} {A:Around} {nm:Nat→Str} {vs:List Nat} {env:Env} {ρ:PEnv} {σ:Store} {P:Addr→Prop} {s:Shared} {E:Value→Shared→Prop}
theorem Good.stay_fr (g:Good c nm vs env ρ σ P s) {h':Heap} {L:Addr} (hL:FrA env L) (k:∀ b o,b≠L→s.heap.get? b=some o→h'.get? b=some o):Stay (nd σ P) (nd σ P) s.heap h':=fun a o hN ho hd=>by
  refine ⟨k a o (fun e=>?_) ho,hN⟩
  obtain ⟨o',ho',hs⟩:=g.fr_alive hL
  rw [← e,ho] at ho'
  cases ho'
  exact not_still hs hd
theorem StoreOk.fr (ok:StoreOk σ P s.heap) {h':Heap} {L:Addr} (st:Stay (nd σ P) (nd σ P) s.heap h') (hL:¬ dom σ L) (k:∀ b o,b≠L→s.heap.get? b=some o→h'.get? b=some o):StoreOk σ P h':=by
  refine ⟨fun a mo e=>(ok.rep a mo e).stay st fun b o hb ho=>k b o (fun q=>hL ?_) ho,ok.apart,ok.free⟩
  subst q
  rcases hb with rfl | ⟨C,fs,rfl⟩
  · exact .inl (by rw [e]; exact Option.some_ne_none _)
  · exact .inr ⟨a,C,fs,e⟩
theorem store_sound {x:Nat} {d:D} {v:Value} {Q:Unit→Shared→Prop} (ok:EnvOk nm vs env) (hx:x∈vs) (hff:∀ a,FrA env a→c.F₀ a) (hcx:∀ C,c.cur≠some (x,C)) (g:Good c nm vs env ρ σ P s) (hr:Rep (nd σ P) s.heap d v)
    (hQ:∀ s',Step c.W (FrA env) σ σ s s'→Good c nm vs env (ρ.put x d) σ P s'→Q () s'):wpAny c.M A (storeName env (nm x) v) Q E s:=by
  have main:∀ (L:Addr) (h':Heap) (tk:Nat),FrA env L→Heap.SameBut L s.heap h'→(∃ m,h'.Ns env.locals m)→(∀ y ca,env.cells.lookup y=some ca→∃ v,h'.IsCell ca v)→
      (VarIs env h' (nm x) v)→(∀ y u,y≠nm x→VarIs env s.heap y u→VarIs env h' y u)→Q () { s with heap:=h',toks:=tk }:=by
    intro L h' tk hL hs hns hcell hv hoth
    have k:∀ b o,b≠L→s.heap.get? b=some o→h'.get? b=some o:=fun b o hb e=>hs.extBut b o hb e
    have st:=g.stay_fr hL k
    have ndL:¬ dom σ L:=fun hd=>(g.own L hd).2 hL
    have al:∀ a o,s.heap.get? a=some o→∃ o',h'.get? a=some o':=fun a o e=>by
      by_cases hb:a=L
      · subst hb
        rcases hL with rfl | ⟨y,hy⟩
        · obtain ⟨m,o',es,ep,ho',_⟩:=hns; exact ⟨o',ho'⟩
        · obtain ⟨w,o',ho',_⟩:=hcell y a hy; exact ⟨o',ho'⟩
      · exact ⟨o,k a o hb e⟩
    have stp:Step c.W (FrA env) σ σ s { s with heap:=h',toks:=tk }:=Step.mk' ⟨h',tk,rfl⟩ (fun a o e hd hf=>k a o (fun q=>hf (q▸hL)) e) al (fun a h => .inl h)
    refine hQ _ stp ⟨fun a o e=>?_,hns,hcell,fun i e hi=>?_,g.st.fr st ndL k,g.own,g.fresh,fun a ha=>?_,g.wp,g.wb,?_,g.p0,g.since.trans (stp.weak hff),fun i C hc=>?_⟩
    · exact k a o (fun q=>by rw [q,g.fresh L hL] at e; cases e) (g.base a o e)
    · rcases PEnv.at_put ρ x i d e hi with ⟨rfl,rfl⟩ | ⟨hne,hi'⟩
      · exact ⟨hx,v,hv,Rep.stay st _ _ hr⟩
      · obtain ⟨hm,u,hu,hru⟩:=g.var i e hi'
        exact ⟨hm,u,hoth _ u (fun q=>hne (ok.inj i hm x hx q)) hu,Rep.stay st _ _ hru⟩
    · obtain ⟨o,ho⟩:=g.prot a ha
      exact al a o ho
    · intro e he
      obtain ⟨q1,L',o,q2,q3,q4⟩:=g.fr e he
      by_cases hb:L'=L
      · subst hb
        rcases hL with rfl | ⟨y,hy⟩
        · obtain ⟨m,o',es,ep,ho',hd',_⟩:=hns
          exact ⟨q1,_,o',q2,ho',fun vs q=>by rw [hd'] at q; cases q⟩
        · obtain ⟨w,o',ho',hd'⟩:=hcell y _ hy
          exact ⟨q1,_,o',q2,ho',fun vs q=>by rw [hd'] at q; cases q⟩
      · exact ⟨q1,L',o,q2,k L' o hb q3,q4⟩
    · obtain ⟨h0,a,o,h1,h2,h3,h4,fs,h5⟩:=g.cur i C hc
      refine ⟨h0,a,o,hoth _ _ (fun q=>hcx C (by rw [← ok.inj i h0 x hx q]; exact hc)) h1,h2,k a o (fun q=>?_) h3,h4,fs,h5⟩
      obtain ⟨o',ho',hs⟩:=g.fr_alive hL
      rw [← q,h3] at ho'; cases ho'
      exact hs.2 fs h5
  obtain ⟨m,hn⟩:=g.ns
  rcases ok.kinds x hx with hl | ⟨hl,ca,hca⟩
  · refine wpAny_storeName_local hl hn (fun h' hn' hs'=>?_) (by rw [ok.kind]; rfl)
    refine main env.locals h' _ (.inl rfl) hs' ⟨_,hn'⟩ (fun y cb hy=>?_) (.inl ⟨hl,_,hn',by simp⟩) (fun y u hy hu=>?_)
    · obtain ⟨w,o,ho,hd⟩:=g.cell y cb hy
      refine ⟨w,o,hs'.extBut cb o (fun q=>?_) ho,hd⟩
      obtain ⟨o',es,ep,ho',hd',_⟩:=hn
      rw [q,ho'] at ho; cases ho; rw [hd'] at hd; cases hd
    · rcases hu with ⟨a,m',hn2,hm⟩ | ⟨a,cb,hc,o,ho,hd⟩
      · have:=ns_unique hn hn2
        subst this
        exact .inl ⟨a,_,hn',by rw [if_neg hy]; exact hm⟩
      · refine .inr ⟨a,cb,hc,o,hs'.extBut cb o (fun q=>?_) ho,hd⟩
        obtain ⟨o',es,ep,ho',hd',_⟩:=hn
        rw [q,ho'] at ho; cases ho; rw [hd'] at hd; cases hd
  · obtain ⟨v₀,hv₀⟩:=g.cell (nm x) ca hca
    refine wpAny_storeName_cell ok.kind hl hca hv₀ fun h' hc' hs'=>?_
    have hne:env.locals≠ca:=fun q=>by
      obtain ⟨o',es,ep,ho',hd',_⟩:=hn
      obtain ⟨o,ho,hd⟩:=hv₀
      rw [← q,ho'] at ho; cases ho; rw [hd'] at hd; cases hd
    refine main ca h' _ (.inr ⟨_,hca⟩) hs' ⟨m,hn.sameBut hs' hne⟩ (fun y cb hy=>?_) (.inr ⟨hl,ca,hca,hc'⟩) (fun y u hy hu=>?_)
    · by_cases hcb:cb=ca
      · subst hcb; exact ⟨_,hc'⟩
      · obtain ⟨w,o,ho,hd⟩:=g.cell y cb hy
        exact ⟨w,o,hs'.extBut cb o hcb ho,hd⟩
    · rcases hu with ⟨a,m',hn2,hm⟩ | ⟨a,cb,hc,o,ho,hd⟩
      · exact .inl ⟨a,m',hn2.sameBut hs' hne,hm⟩
      · refine .inr ⟨a,cb,hc,o,hs'.extBut cb o (fun q=>?_) ho,hd⟩
        subst q
        exact hy (name_of_addr ok.apart (mem_of_lookup hc) (mem_of_lookup hca))
theorem Step.but {W F:Addr→Prop} {σ σ':Store} {s₀ s:Shared} (x:Step W F σ σ' s₀ s) {I:Addr} (hI:s₀.heap.get? I=none) {h':Heap} {tk:Nat} (k:∀ b o,b≠I→s.heap.get? b=some o→h'.get? b=some o) :
    Step W F σ σ' s₀ { s with heap:=h',toks:=tk }:=by
  have ne:∀ a o,s₀.heap.get? a=some o→a≠I:=fun a o e q=>by subst q; rw [hI] at e; cases e
  refine ⟨?_,fun a o e hd hf hw=>k a o (ne a o e) (x.keep a o e hd hf hw),fun a o e hw hd hf=>?_,fun a o e=>?_,x.new⟩
  · obtain ⟨h₁,t₁,rfl⟩:=x.same
    exact ⟨h',tk,rfl⟩
  · obtain ⟨sl,e'⟩:=x.slot a o e hw hd hf
    exact ⟨sl,k a _ (ne a o e) e'⟩
  · obtain ⟨o',e'⟩:=x.alive a o e
    exact ⟨o',k a o' (ne a o e) e'⟩
theorem Good.but (g:Good c nm vs env ρ σ P s) {I:Addr} {oI:Obj} {ws:Array Value} (hI:s.heap.get? I=some oI) (hd:oI.data = .fields ws) (hcu:c.cur=none) (hb:c.b.get? I=none) (h0:c.s₀.heap.get? I=none) (hP:¬ P I) {h':Heap} {tk:Nat}
    (k:∀ b o,b≠I→s.heap.get? b=some o→h'.get? b=some o):Good c nm vs env ρ σ P { s with heap:=h',toks:=tk }:=by
  have nf:∀ a,FrA env a→a≠I:=fun a ha e=>by
    subst e
    rcases ha with rfl | ⟨y,hy⟩
    · obtain ⟨m,o',es,ep,ho',hd',_⟩:=g.ns; rw [hI] at ho'; cases ho'; rw [hd] at hd'; cases hd'
    · obtain ⟨w,o',ho',hd'⟩:=g.cell y _ hy; rw [hI] at ho'; cases ho'; rw [hd] at hd'; cases hd'
  have nI:¬ dom σ I:=fun hx=>by
    rcases hx with h1 | ⟨y,C,fs,h1⟩
    · cases e:σ I with
      | none=>exact h1 e
      | some mo=>
        have:=g.st.rep I mo e
        cases mo with
        | mlist ds=>obtain ⟨us,⟨n,ho⟩,_⟩:=this; rw [hI] at ho; cases ho; cases hd
        | inst C dx fs=>obtain ⟨n,es,vs,h2,_⟩:=this; rw [hI] at h2; cases h2; cases hd
        | mdict kvs=>obtain ⟨n,es,vs,h2,_⟩:=this; rw [hI] at h2; cases h2; cases hd
    · obtain ⟨n,es,_,_,h2,_⟩:=g.st.rep y _ h1
      rw [hI] at h2; cases h2; cases hd
  have st:Stay (nd σ P) (nd σ P) s.heap h':=fun a o hN ho hd'=>⟨k a o (fun e=>by subst e; rw [hI] at ho; cases ho; exact not_still' hd hd') ho,hN⟩
  refine ⟨fun a o e=>k a o (fun q=>by subst q; rw [hb] at e; cases e) (g.base a o e),?_,fun x ca hx=>?_,fun i d e=>?_,g.st.fr st nI k,g.own,g.fresh,fun a ha=>?_,g.wp,g.wb,fun e he=>?_,g.p0,g.since.but h0 k,fun i C hc=>by rw [hcu] at hc; cases hc⟩
  · obtain ⟨m,hn⟩:=g.ns
    exact ⟨m,hn.at' fun o e=>k _ o (nf _ (.inl rfl)) e⟩
  · obtain ⟨v,o,ho,hd'⟩:=g.cell x ca hx
    exact ⟨v,o,k ca o (nf _ (.inr ⟨x,hx⟩)) ho,hd'⟩
  · obtain ⟨hi,v,hv,hr⟩:=g.var i d e
    exact ⟨hi,v,hv.keep' (fun a o ha e=>k a o (nf a ha) e),Rep.stay st _ _ hr⟩
  · obtain ⟨o,ho⟩:=g.prot a ha
    exact ⟨o,k a o (fun q=>hP (q▸ha)) ho⟩
  · obtain ⟨q1,L',o,q2,q3,q4⟩:=g.fr e he
    exact ⟨q1,L',o,q2,k L' o (fun q=>hP (q▸g.wp L' ⟨e,he,q2⟩)) q3,q4⟩
theorem Good.of_step_fr {ρ':PEnv} {σ':Store} {s':Shared} (g:Good c nm vs env ρ σ P s) (st:Step c.W (FrA env) σ σ' s s') (g':Good c nm vs env ρ' σ' P s'):Stay (nd σ P) (nd σ' P) s.heap s'.heap:=fun a o hN ho hd=>by
  refine ⟨st.keep a o ho hN.1 (fun hf=>?_) (fun hw=>hN.2 (g.wp a hw)),fun h=>(st.new a h).elim hN.1 (fun e=>by rw [e] at ho; cases ho),hN.2⟩
  obtain ⟨o',ho',hs⟩:=g.fr_alive hf
  rw [ho] at ho'; cases ho'
  exact not_still hs hd
end
theorem kp_frs {h₀ h h':Heap} {l:List Env} (fr:Frs h l) (k:Kp h₀ l h h'):Frs h' l:=fun e he=>by
  obtain ⟨q1,L,o,q2,q3,q4⟩:=fr e he
  obtain ⟨sl,q5⟩:=k.slot L o q3 ⟨e,he,q2⟩
  exact ⟨q1,L,_,q2,q5,q4⟩
noncomputable def Front (l:List Env) (env:Env):Prop:=∃ r L,l=env::r∧env.frame=some L
noncomputable def Cx.loop (c:Cx) (A:Around) (env:Env) (R:Value→Shared→Prop) (hfr:A.frames=some c.l) (hf:Front c.l env)
    (hR:∀ e C σ' s',c.X C σ'→Step (WL c.l) c.F₀ c.σ₀ σ' c.s₀ s'→StoreOk σ' c.P₀ s'.heap→Frs s'.heap c.l→Held c.l c.s₀.heap e C s'.heap→R (.ref e) s') (hw:∀ a,WL c.l a→c.P₀ a):Cx:=
  { c with
    E:=notedBy c.M A env R
    exc:=fun e C σ' s' hX st ok fr fl=>by
      obtain ⟨r,L,hl,hL⟩:=hf
      have hfr':A.frames=some (env::r):=by rw [hfr,hl]
      refine note_any (h₀:=c.s₀.heap) (C:=C) hfr' hL (by rw [← hl]; exact fr) st.alive (by rw [← hl]; exact fl) fun h' held kp=>?_
      rw [← hl] at held kp
      exact hR e C σ' _ hX (kp_step st kp) (kp_store ok kp hw) (kp_frs fr kp) held }
theorem Good.toLoop {c:Cx} {nm vs env ρ σ P s A R hfr hf hR hw} (g:Good c nm vs env ρ σ P s):Good (c.loop A env R hfr hf hR hw) nm vs env ρ σ P s:=⟨g.base,g.ns,g.cell,g.var,g.st,g.own,g.fresh,g.prot,g.wp,g.wb,g.fr,g.p0,g.since,g.cur⟩
theorem Good.ofLoop {c:Cx} {nm vs env ρ σ P s A R hfr hf hR hw} (g:Good (c.loop A env R hfr hf hR hw) nm vs env ρ σ P s):Good c nm vs env ρ σ P s:=⟨g.base,g.ns,g.cell,g.var,g.st,g.own,g.fresh,g.prot,g.wp,g.wb,g.fr,g.p0,g.since,g.cur⟩
theorem ResOk.ofLoop {c:Cx} {nm vs env P r f s A R hfr hf hR hw} (x:ResOk (c.loop A env R hfr hf hR hw) nm vs env P r f s):ResOk c nm vs env P r f s:=by
  cases r with
  | ret d σ=>exact x
  | _=>exact ⟨x.1,x.2.ofLoop⟩
section
variable {c:Cx} {A:Around} {nm:Nat→Str} {vs:List Nat} {env:Env} {P:Addr→Prop}
set_option tactic.hygienic true in
theorem for_sound {I:Addr} {ds:List D} {ok:Store→(Addr→Prop)→Heap→Prop} {It:Nat→Heap→Prop} (T:Turns c A I ds ok It) {d:D} {v:Value} {keep:Store→Prop}
    (hok:∀ (σ:Store) (s:Shared),Rep (nd σ P) s.heap d v→StoreOk σ P s.heap→keep σ→ok σ P s.heap) (eo:EnvOk nm vs env) {x:Nat} {xp:Pos} (hx:x∈vs) {body:List Stmt}
    {step:D→PEnv→Store→(Res→Prop)→Prop} (hff:∀ a,FrA env a→c.F₀ a) (hcu:c.cur=none) {R:Result→Shared→Prop} {hfr:A.frames=some c.l} {hfe:Front c.l env} {hRE:_} {hw0:∀ a,WL c.l a→c.P₀ a} (hstep:∀ e ρ σ Ψ,step e ρ σ Ψ→WPs (c.loop A env (fun e s'=>R (.error e) s') hfr hfe hRE hw0) A nm vs env (ρ.put x e) σ (execs body env) Ψ)
    {ρ₀:PEnv} {σ₀:Store} {s₀ s:Shared} (g₀:Good c nm vs env ρ₀ σ₀ P s₀) (hI:s₀.heap.get? I=none) (st:Step c.W (FrA env) σ₀ σ₀ s₀ s) (g:Good c nm vs env ρ₀ σ₀ P s) (it:It 0 s.heap) (hd:Rep (nd σ₀ P) s.heap d v) (hk:keep σ₀)
    {Φ:Res→Prop} (hfor:forS step keep ds ρ₀ σ₀ Φ) (hR:∀ f s' r,Φ r→Step c.W (FrA env) σ₀ r.sto s₀ s'→ResOk c nm vs env P r f s'→R (.ok f) s') :
    codeAny c.M A (.forLoop (.Name (nm x) xp) (.ref I) body [] env) R s:=by
  have hbI:c.b.get? I=none:=by
    cases e:c.b.get? I with
    | none=>rfl
    | some o=>rw [g₀.base I o e] at hI; cases hI
  have h0I:c.s₀.heap.get? I=none:=by
    cases e:c.s₀.heap.get? I with
    | none=>rfl
    | some o=>obtain ⟨o',e'⟩:=g₀.since.alive I o e; rw [hI] at e'; cases e'
  have hPI:¬ P I:=fun hp=>by obtain ⟨o,ho⟩:=g₀.prot I hp; rw [hI] at ho; cases ho
  refine codeAny_forLoop
    (fun n s'=>∃ k ρ σ,k≤ds.length∧n=ds.length - k∧It k s'.heap∧Good c nm vs env ρ σ P s'∧Step c.W (FrA env) σ₀ σ s₀ s'∧Rep (nd σ P) s'.heap d v∧keep σ∧forS step keep (ds.drop k) ρ σ Φ)
    ?_ ds.length ⟨0,ρ₀,σ₀,Nat.zero_le _,rfl,it,g,st,hd,hk,hfor⟩
  rintro n s' ⟨k,ρ,σ,hkl,rfl,it',g',st',hd',hk',hf'⟩
  obtain ⟨oI,ws,hoI,hdI⟩:=T.alive k _ it'
  by_cases hlt:k<ds.length
  · have hget:ds[k]?=some ds[k]:=List.getElem?_eq_getElem hlt
    have hdrop:ds.drop k=ds[k]::ds.drop (k+1):=(List.drop_eq_getElem_cons hlt)
    rw [hdrop] at hf'
    simp only [forS] at hf'
    refine T.item k _ s' σ P _ _ hget it' (hok σ s' hd' g'.st hk') fun u h₁ tk₁ it₁ hs₁ hr₁=>?_
    have kb:∀ b o,b≠I→s'.heap.get? b=some o→h₁.get? b=some o:=fun b o hb e=>hs₁.extBut b o hb e
    have g₁:Good c nm vs env ρ σ P { s' with heap:=h₁,toks:=tk₁ }:=g'.but hoI hdI hcu hbI h0I hPI kb
    have st₁:Step c.W (FrA env) σ₀ σ s₀ { s' with heap:=h₁,toks:=tk₁ }:=st'.but hI kb
    have stay₁:Stay (nd σ P) (nd σ P) s'.heap h₁:=fun a o hN ho hd2=>⟨kb a o (fun e=>by subst e; rw [hoI] at ho; cases ho; exact not_still' hdI hd2) ho,hN⟩
    refine wpAny_assign_Name (store_sound eo hx hff (fun C q=>by rw [hcu] at q; cases q) g₁ (Rep.stay stay₁ _ _ hr₁) fun s₂ st₂ g₂=>?_)
    have stay₂:=g₁.of_step_fr st₂ g₂
    have it₂:It (k+1) s₂.heap:=T.mv _ _ _ it₁ fun o e=>by
      obtain ⟨oI',ws',hoI',hdI'⟩:=T.alive (k+1) _ it₁
      refine st₂.keep I o e (fun hdm=>?_) (fun hf=>?_) (fun hw=>hPI (g₀.wp I hw))
      · obtain ⟨o2,ho2⟩:=g₁.st.alive hdm
        rcases hdm with h1 | ⟨y,C,fs,h1⟩
        · cases e2:σ I with
          | none=>exact h1 e2
          | some mo=>
            have:=g₁.st.rep I mo e2
            cases mo with
            | mlist ds=>obtain ⟨us,⟨n3,ho3⟩,_⟩:=this; rw [hoI'] at ho3; cases ho3; cases hdI'
            | inst C dx fs=>obtain ⟨n3,es,vs,h2,_⟩:=this; rw [hoI'] at h2; cases h2; cases hdI'
            | mdict kvs=>obtain ⟨n3,es,vs,h2,_⟩:=this; rw [hoI'] at h2; cases h2; cases hdI'
        · obtain ⟨n3,es,_,_,h2,_⟩:=g₁.st.rep y _ h1
          rw [hoI'] at h2; cases h2; cases hdI'
      · rcases hf with rfl | ⟨y,hy⟩
        · obtain ⟨m,o',es,ep,ho',hd',_⟩:=g₁.ns; rw [hoI'] at ho'; cases ho'; rw [hdI'] at hd'; cases hd'
        · obtain ⟨w,o',ho',hd'⟩:=g₁.cell y _ hy; rw [hoI'] at ho'; cases ho'; rw [hdI'] at hd'; cases hd'
    refine hstep _ _ _ _ hf' P s₂ g₂.toLoop _ fun f s₃ r hr st₃ ro=>?_
    replace ro:=ro.ofLoop
    have st03:Step c.W (FrA env) σ₀ r.sto s₀ s₃:=(st₁.trans st₂).trans st₃
    have it₃:It (k+1) s₃.heap:=T.mv _ _ _ it₂ fun o e=>by
      obtain ⟨oI',ws',hoI',hdI'⟩:=T.alive (k+1) _ it₂
      refine st₃.keep I o e (fun hdm=>?_) (fun hf=>?_) (fun hw=>hPI (g₀.wp I hw))
      · rcases hdm with h1 | ⟨y,C,fs,h1⟩
        · cases e2:σ I with
          | none=>exact h1 e2
          | some mo=>
            have:=g₂.st.rep I mo e2
            cases mo with
            | mlist ds=>obtain ⟨us,⟨n3,ho3⟩,_⟩:=this; rw [hoI'] at ho3; cases ho3; cases hdI'
            | inst C dx fs=>obtain ⟨n3,es,vs,h2,_⟩:=this; rw [hoI'] at h2; cases h2; cases hdI'
            | mdict kvs=>obtain ⟨n3,es,vs,h2,_⟩:=this; rw [hoI'] at h2; cases h2; cases hdI'
        · obtain ⟨n3,es,_,_,h2,_⟩:=g₂.st.rep y _ h1
          rw [hoI'] at h2; cases h2; cases hdI'
      · rcases hf with rfl | ⟨y,hy⟩
        · obtain ⟨m,o',es,ep,ho',hd',_⟩:=g₂.ns; rw [hoI'] at ho'; cases ho'; rw [hdI'] at hd'; cases hd'
        · obtain ⟨w,o',ho',hd'⟩:=g₂.cell y _ hy; rw [hoI'] at ho'; cases ho'; rw [hdI'] at hd'; cases hd'
    have hd₂:Rep (nd σ P) s₂.heap d v:=Rep.stay stay₂ _ _ (Rep.stay stay₁ _ _ hd')
    cases r with
    | next ρ' σ'=>
      obtain ⟨rfl,g₃⟩:=ro
      exact ⟨ds.length - (k+1),by omega,k+1,ρ',σ',hlt,rfl,it₃,g₃,st03,Rep.stay (g₂.of_step_fr st₃ g₃) _ _ hd₂,hr.1,hr.2⟩
    | cont ρ' σ'=>
      obtain ⟨rfl,g₃⟩:=ro
      exact ⟨ds.length - (k+1),by omega,k+1,ρ',σ',hlt,rfl,it₃,g₃,st03,Rep.stay (g₂.of_step_fr st₃ g₃) _ _ hd₂,hr.1,hr.2⟩
    | brk ρ' σ'=>
      obtain ⟨rfl,g₃⟩:=ro
      exact hR .next s₃ (.next ρ' σ') hr st03 ⟨rfl,g₃⟩
    | ret d' σ'=>
      obtain ⟨u',rfl,h1,h2⟩:=ro
      exact hR (.ret u') s₃ (.ret d' σ') hr st03 ⟨u',rfl,h1,h2⟩
  · have hke:k=ds.length:=by omega
    subst hke
    rw [List.drop_length] at hf'
    simp only [forS] at hf'
    refine T.done s' σ P _ _ it' (hok σ s' hd' g'.st hk') fun h₁ tk₁ he₁=>wpAny_execs_nil ?_
    have kb:∀ b o,b≠I→s'.heap.get? b=some o→h₁.get? b=some o:=fun b o hb e=>he₁ b o hb e
    exact hR .next _ (.next ρ σ) hf' (st'.but hI kb) ⟨rfl,g'.but hoI hdI hcu hbI h0I hPI kb⟩
end
section
variable {c:Cx} {A:Around} {nm:Nat→Str} {vs:List Nat} {env:Env} {ρ:PEnv} {σ:Store} {P:Addr→Prop} {s:Shared} {E:Value→Shared→Prop}
theorem Good.change (g:Good c nm vs env ρ σ P s) {I:Addr} (hcu:c.cur=none) (h0:c.s₀.heap.get? I=none) (hW:¬ c.W I) (hb:c.b.get? I=none) (hf:¬ FrA env I) (hdm:¬ dom σ I) (hN:∀ o items n,nd σ P I→s.heap.get? I=some o→o.data ≠ .seq items n) {h':Heap} {tk:Nat}
    (hal:P I→∃ o,h'.get? I=some o) (k:∀ b o,b≠I→s.heap.get? b=some o→h'.get? b=some o) :
    Good c nm vs env ρ σ P { s with heap:=h',toks:=tk }∧Stay (nd σ P) (nd σ P) s.heap h':=by
  have st:Stay (nd σ P) (nd σ P) s.heap h':=fun a o hn ho ⟨items,n,hd'⟩=>⟨k a o (fun e=>by subst e; exact hN o items n hn ho hd') ho,hn⟩
  refine ⟨⟨fun a o e=>k a o (fun q=>by subst q; rw [hb] at e; cases e) (g.base a o e),?_,fun x ca hx=>?_,fun i d e=>?_,g.st.fr st hdm k,g.own,g.fresh,fun a ha=>?_,g.wp,g.wb,fun e he=>?_,g.p0,g.since.but h0 k,fun i C hc=>by rw [hcu] at hc; cases hc⟩,st⟩
  · obtain ⟨m,hn⟩:=g.ns
    exact ⟨m,hn.at' fun o e=>k _ o (fun q=>hf (.inl q.symm)) e⟩
  · obtain ⟨v,o,ho,hd'⟩:=g.cell x ca hx
    exact ⟨v,o,k ca o (fun q=>hf (.inr ⟨x,by rw [← q]; exact hx⟩)) ho,hd'⟩
  · obtain ⟨hi,v,hv,hr⟩:=g.var i d e
    exact ⟨hi,v,hv.keep' (fun a o ha e=>k a o (fun q=>hf (q▸ha)) e),Rep.stay st _ _ hr⟩
  · by_cases h:a=I
    · subst h; exact hal ha
    · obtain ⟨o,ho⟩:=g.prot a ha
      exact ⟨o,k a o h ho⟩
  · obtain ⟨q1,L',o,q2,q3,q4⟩:=g.fr e he
    exact ⟨q1,L',o,q2,k L' o (fun q=>hW (q▸⟨e,he,q2⟩)) q3,q4⟩
theorem not_dom_of_fields (ok:StoreOk σ P s.heap) {I:Addr} {oI:Obj} {ws:Array Value} (hI:s.heap.get? I=some oI) (hd:oI.data = .fields ws):¬ dom σ I:=fun hx=>by
  rcases hx with h1 | ⟨y,C,fs,h1⟩
  · cases e:σ I with
    | none=>exact h1 e
    | some mo=>
      have:=ok.rep I mo e
      cases mo with
      | mlist ds=>obtain ⟨us,⟨n,ho⟩,_⟩:=this; rw [hI] at ho; cases ho; cases hd
      | inst C dx fs=>obtain ⟨n,es,vs,h2,_⟩:=this; rw [hI] at h2; cases h2; cases hd
      | mdict kvs=>obtain ⟨n,es,vs,h2,_⟩:=this; rw [hI] at h2; cases h2; cases hd
  · obtain ⟨n,es,_,_,h2,_⟩:=ok.rep y _ h1
    rw [hI] at h2; cases h2; cases hd
theorem StoreOk.weak {P':Addr→Prop} {h:Heap} (ok:StoreOk σ P' h) (hp:∀ a,P a→P' a):StoreOk σ P h:=
  ⟨fun a mo e=>MRep.stay (fun b o hN ho _=>⟨ho,hN.1,fun q=>hN.2 (hp b q)⟩) (fun _ _ _ ho=>ho) (ok.rep a mo e),ok.apart,fun a ha q=>ok.free a ha (hp a q)⟩
theorem adopt {h:Heap} {P':Addr→Prop} {a:Addr} {ds:List D} {us:Array Value} (ok:StoreOk σ P' h) (hp:∀ b,P' b ↔ P b∨b=a) (hPa:¬ P a) (hn:h.PlainList a us) (hr:RepL (nd σ P') h ds us.toList) :
    freshIn σ a∧StoreOk (σ.set a (.mlist ds)) P h:=by
  have nda:¬ dom σ a:=fun hd=>ok.free a hd ((hp a).mpr (.inr rfl))
  have hf:freshIn σ a:=⟨by
    cases e:σ a with
    | none=>rfl
    | some m=>exact absurd (Or.inl (by rw [e]; exact Option.some_ne_none m)) nda,fun x C fs e=>nda (.inr ⟨x,C,fs,e⟩)⟩
  have st:Stay (nd σ P') (nd (σ.set a (.mlist ds)) P) h h:=fun b o hN ho _=>⟨ho,fun hd=>(dom_set hd).elim hN.1 (fun e=>hN.2 ((hp b).mpr (.inr e))),fun q=>hN.2 ((hp b).mpr (.inl q))⟩
  refine ⟨hf,⟨fun b mo e=>?_,fun x C dx fs e=>?_,fun b hb=>?_⟩⟩
  · unfold Store.set at e
    by_cases hb:b=a
    · rw [if_pos hb] at e
      cases e
      subst hb
      exact ⟨us,hn,RepL.stay st _ _ hr⟩
    · rw [if_neg hb] at e
      exact MRep.stay st (fun b' o _ ho=>ho) (ok.rep b mo e)
  · unfold Store.set at e ⊢
    by_cases hx:x=a
    · rw [if_pos hx] at e; cases e
    · rw [if_neg hx] at e
      obtain ⟨h1,h2⟩:=ok.apart x C dx fs e
      refine ⟨?_,fun y C' fs' e'=>?_⟩
      · rw [if_neg (fun q:dx=a=>hf.2 x C fs (q▸e))]; exact h1
      · by_cases hy:y=a
        · rw [if_pos hy] at e'; cases e'
        · rw [if_neg hy] at e'; exact h2 y C' fs' e'
  · rcases dom_set hb with h | h
    · exact fun q=>ok.free b h ((hp b).mpr (.inl q))
    · subst h; exact hPa
noncomputable def clGo (env:Env):List (Str×NameKind)→List (Str×Addr)→List (Str×Addr)
  | [],acc=>acc
  | (n,k)::r,acc=>if k == .free then clGo env r ((n,(env.cells.lookup n).getD 0)::acc) else clGo env r acc
noncomputable def clOf (env:Env) (sc:Scope):List (Str×Addr):=clGo env sc.names []
theorem closureFor_eq {env:Env} {sc:Scope} (h:∀ x∈sc.names,x.2 = .free→∃ ca,env.cells.lookup x.1=some ca):closureFor sc env=pure (clOf env sc):=by
  unfold closureFor clOf
  suffices H:∀ (l:List (Str×NameKind)) (acc:List (Str×Addr)),(∀ x∈l,x.2 = .free→∃ ca,env.cells.lookup x.1=some ca)→
      (forIn l acc fun x (cs:List (Str×Addr))=>(match x with
        | (name,kind)=>if (kind == .free)=true then do let y←cellOf env name; pure (ForInStep.yield ((name,y)::cs)) else pure (ForInStep.yield cs):Sem (ForInStep (List (Str×Addr)))))=pure (clGo env l acc) by
    have:=H sc.names [] h
    simp only [bind_pure]
    exact this
  intro l
  induction l with
  | nil=>intro acc _; rfl
  | cons x r ih=>
    intro acc hl
    obtain ⟨n,k⟩:=x
    have hr:∀ y∈r,y.2 = .free→∃ ca,env.cells.lookup y.1=some ca:=fun y hy=>hl y (List.mem_cons_of_mem _ hy)
    rw [List.forIn_cons]
    by_cases hk:(k==NameKind.free)=true
    · obtain ⟨ca,hca⟩:=hl (n,k) List.mem_cons_self (by simpa using hk)
      simp only [hk,if_true,clGo,cellOf]
      simp only at hca
      rw [hca]
      simp only [pure_bind,Option.getD_some]
      exact ih _ hr
    · have hk':(k==NameKind.free)=false:=by simpa using hk
      simp only [hk',Bool.false_eq_true,if_false,clGo,pure_bind]
      exact ih _ hr
set_option tactic.hygienic true in
theorem clGo_mem {env:Env}:∀ (l:List (Str×NameKind)) (acc:List (Str×Addr)) (n:Str) (a:Addr),(n,a)∈clGo env l acc→(n,a)∈acc∨((n,NameKind.free)∈l∧a=(env.cells.lookup n).getD 0)
  | [],acc,n,a,h => .inl h
  | (m, k)::r,acc,n,a,h=>by
    unfold clGo at h
    split at h
    · rename_i hk
      have hk':k = .free:=by simpa using hk
      rcases clGo_mem r _ n a h with h1 | ⟨h1,h2⟩
      · rcases List.mem_cons.mp h1 with e | h1
        · cases e; subst hk'; exact .inr ⟨List.mem_cons_self,rfl⟩
        · exact .inl h1
      · exact .inr ⟨List.mem_cons_of_mem _ h1,h2⟩
    · rcases clGo_mem r _ n a h with h1 | ⟨h1,h2⟩
      · exact .inl h1
      · exact .inr ⟨List.mem_cons_of_mem _ h1,h2⟩
set_option tactic.hygienic true in
theorem clGo_has {env:Env}:∀ (l:List (Str×NameKind)) (acc:List (Str×Addr)) (n:Str),((n,NameKind.free)∈l∨∃ a,(n,a)∈acc)→∃ a,(n,a)∈clGo env l acc
  | [],acc,n,h=>h.elim (fun h=>by cases h) id
  | (m, k)::r,acc,n,h=>by
    unfold clGo
    split
    · rename_i hk
      refine clGo_has r _ n ?_
      rcases h with h | ⟨a,h⟩
      · rcases List.mem_cons.mp h with e | h
        · cases e; exact .inr ⟨_,List.mem_cons_self⟩
        · exact .inl h
      · exact .inr ⟨a,List.mem_cons_of_mem _ h⟩
    · rename_i hk
      refine clGo_has r _ n ?_
      rcases h with h | ⟨a,h⟩
      · rcases List.mem_cons.mp h with e | h
        · cases e; exact absurd (by rfl) hk
        · exact .inl h
      · exact .inr ⟨a,h⟩
theorem lookup_of_mem {α:Type}:∀ {l:List (Str×α)} {n:Str} {a:α},(n,a)∈l→∃ b,l.lookup n=some b
  | (m,c)::r,n,a,h=>by
    rw [List.lookup_cons]
    cases hb:n==m with
    | true=>exact ⟨c,rfl⟩
    | false=>
      rcases List.mem_cons.mp h with e | h
      · cases e; simp at hb
      · exact lookup_of_mem h
theorem cl_lookup {env:Env} {sc:Scope} {n:Str} {ca:Addr} (hn:(n,NameKind.free)∈sc.names) (hc:env.cells.lookup n=some ca):(clOf env sc).lookup n=some ca:=by
  obtain ⟨a,ha⟩:=clGo_has (env:=env) sc.names [] n (.inl hn)
  obtain ⟨b,hb⟩:=lookup_of_mem ha
  have:=mem_of_lookup hb
  rcases clGo_mem _ _ _ _ this with h | ⟨_,h⟩
  · cases h
  · unfold clOf; rw [hb,h,hc]; rfl
theorem cl_from {env:Env} {sc:Scope} (hfr:∀ x∈sc.names,x.2 = .free→∃ ca,env.cells.lookup x.1=some ca) {n:Str} {ca:Addr} (h:(clOf env sc).lookup n=some ca):env.cells.lookup n=some ca:=by
  rcases clGo_mem _ _ _ _ (mem_of_lookup h) with h | ⟨h1,h2⟩
  · cases h
  · obtain ⟨cb,hcb⟩:=hfr _ h1 rfl
    simp only at hcb
    rw [hcb] at h2 ⊢
    rw [h2]; rfl
set_option tactic.hygienic true in
theorem cl_apart {env:Env} {sc:Scope} (hfr:∀ x∈sc.names,x.2 = .free→∃ ca,env.cells.lookup x.1=some ca) (ha:env.cells.Pairwise fun x y=>x.2≠y.2) (hnd:(sc.names.map (·.1)).Nodup):(clOf env sc).Pairwise fun x y=>x.2≠y.2:=by
  suffices H:∀ (l:List (Str×NameKind)) (acc:List (Str×Addr)),(∀ x∈l,x.2 = .free→∃ ca,env.cells.lookup x.1=some ca)→(l.map (·.1)).Nodup→(∀ n a,(n,a)∈acc→env.cells.lookup n=some a∧n ∉ l.map (·.1))→
      (acc.Pairwise fun x y=>x.2≠y.2)→(clGo env l acc).Pairwise fun x y=>x.2≠y.2 from H _ _ hfr hnd (fun _ _ h=>by cases h) .nil
  intro l
  induction l with
  | nil=>intro acc _ _ _ h; exact h
  | cons x r ih=>
    intro acc h1 h2 h3 h4
    obtain ⟨m,k⟩:=x
    have h2':=List.nodup_cons.mp h2
    unfold clGo
    split
    · rename_i hk
      obtain ⟨ca,hca⟩:=h1 (m,k) List.mem_cons_self (by simpa using hk)
      simp only at hca
      rw [hca]
      refine ih _ (fun y hy=>h1 y (List.mem_cons_of_mem _ hy)) h2'.2 (fun n a hm=>?_) (List.pairwise_cons.mpr ⟨fun y hy e=>?_,h4⟩)
      · rcases List.mem_cons.mp hm with e | hm
        · cases e; exact ⟨by rw [hca]; rfl,h2'.1⟩
        · exact ⟨(h3 n a hm).1,fun q=>(h3 n a hm).2 (List.mem_cons_of_mem _ q)⟩
      · obtain ⟨yn,ya⟩:=y
        have h5:=h3 yn ya hy
        have e':ca=ya:=e
        have:=name_of_addr ha (mem_of_lookup hca) (e'▸mem_of_lookup h5.1)
        exact h5.2 (by rw [← this]; exact List.mem_cons_self)
    · exact ih _ (fun y hy=>h1 y (List.mem_cons_of_mem _ hy)) h2'.2 (fun n a hm=>⟨(h3 n a hm).1,fun q=>(h3 n a hm).2 (List.mem_cons_of_mem _ q)⟩) h4
theorem lookup_nodup {α:Type}:∀ {l:List (Str×α)} {n:Str} {a:α},(l.map (·.1)).Nodup→(n,a)∈l→l.lookup n=some a
  | (m, c)::r,n,a,hnd,h=>by
    rw [List.lookup_cons]
    have hnd':=List.nodup_cons.mp hnd
    rcases List.mem_cons.mp h with e | h1
    · cases e; simp
    · cases hb:n==m with
      | true=>
        have e:n=m:=by simpa using hb
        have h2:n∈r.map (·.1):=List.mem_map_of_mem (f:=fun x:Str×α=>x.1) h1
        rw [e] at h2
        exact absurd h2 hnd'.1
      | false=>exact lookup_nodup hnd'.2 h1
set_option tactic.hygienic true in
theorem relabel_names {env:Env} {sc:Scope}:((relabel sc env).names.map (·.1))=sc.names.map (·.1):=by
  unfold relabel
  simp only [List.map_map]
  congr 1
  funext x
  obtain ⟨n,k⟩:=x
  simp only [Function.comp]
  split <;> rfl
end
end Mine
end
section
open PySem PyProof.Rows
set_option Elab.async false
set_option linter.unusedVariables false
namespace Mine
theorem relabel_mem {env:Env} {sc:Scope} {n:Str} {k:NameKind} (h:(n,k)∈sc.names) :
    (n,if (k == .free&&env.scope.kind == .function&&env.kindOf n==some .cell) then NameKind.cell else k)∈(relabel sc env).names:=by
  unfold relabel
  refine List.mem_map.mpr ⟨(n,k),h,?_⟩
  simp only
  split <;> rfl
theorem relabel_lookup {env:Env} {sc:Scope} {n:Str} {k:NameKind} (hnd:(sc.names.map (·.1)).Nodup) (h:(n,k)∈sc.names) :
    (relabel sc env).names.lookup n=some (if (k == .free&&env.scope.kind == .function&&env.kindOf n==some .cell) then NameKind.cell else k):=
  lookup_nodup (by rw [relabel_names]; exact hnd) (relabel_mem h)
structure CompOk (nm:Nat→Str) (vs:List Nat) (env:Env) (sc:Scope) (x:Nat) (fr:List Nat):Prop where
  kind:sc.kind = .function
  nodup:(sc.names.map (·.1)).Nodup
  targ:(nm x,NameKind.local)∈sc.names
  frees:∀ i∈fr,i∈vs∧(nm i,NameKind.free)∈sc.names∧env.kindOf (nm i)=some .cell
  all:∀ y∈sc.names,y.2 = .free→∃ i∈fr,nm i=y.1
  nocell:∀ y∈sc.names,y.2 ≠ .cell
  dbg:(nm x==("__debug__" : Str))=false
section
variable {c:Cx} {A:Around} {nm:Nat→Str} {vs:List Nat} {env:Env} {sc:Scope} {x:Nat} {fr:List Nat}
theorem CompOk.cellsOf (co:CompOk nm vs env sc x fr) (eo:EnvOk nm vs env):∀ y∈sc.names,y.2 = .free→∃ ca,env.cells.lookup y.1=some ca:=fun y hy hf=>by
  obtain ⟨i,hi,e⟩:=co.all y hy hf
  obtain ⟨hv,_,hk⟩:=co.frees i hi
  rcases eo.kinds i hv with h | ⟨_,ca,hca⟩
  · rw [hk] at h; cases h
  · exact ⟨ca,e▸hca⟩
theorem CompOk.envOk (co:CompOk nm vs env sc x fr) (eo:EnvOk nm vs env) (C:Addr):EnvOk nm (x::fr) (compEnvC sc (clOf env sc) C env) where
  kind:=co.kind
  globals:=eo.globals
  builtins:=eo.builtins
  inj := fun i hi j hj e=>by
    have key:∀ k∈fr,nm x≠nm k:=fun k hk q=>by
      have h1:=lookup_nodup co.nodup co.targ
      have h2:=lookup_nodup co.nodup (co.frees k hk).2.1
      rw [q,h2] at h1; cases h1
    rcases List.mem_cons.mp hi with e1 | h1 <;> rcases List.mem_cons.mp hj with e2 | h2
    · rw [e1,e2]
    · exact absurd (e1▸e) (key j h2)
    · exact absurd (e2▸e.symm) (key i h1)
    · exact eo.inj i (co.frees i h1).1 j (co.frees j h2).1 e
  kinds := fun i hi=>by
    rcases List.mem_cons.mp hi with rfl | hi
    · left
      show (relabel sc env).names.lookup (nm i)=some .local
      rw [relabel_lookup co.nodup co.targ]; rfl
    · right
      obtain ⟨hv,hm,hk⟩:=co.frees i hi
      refine ⟨?_,?_⟩
      · show (relabel sc env).names.lookup (nm i)=some .cell
        rw [relabel_lookup co.nodup hm,eo.kind,hk]; rfl
      · obtain ⟨ca,hca⟩:=co.cellsOf eo _ hm rfl
        exact ⟨ca,cl_lookup hm hca⟩
  dbg:=fun i hi=>by
    rcases List.mem_cons.mp hi with rfl | hi
    · exact co.dbg
    · exact eo.dbg i (co.frees i hi).1
  apart:=cl_apart (co.cellsOf eo) eo.apart co.nodup
set_option tactic.hygienic true in
theorem onlyGo_at:∀ (l:List Nat) (k:Nat) (ρ:PEnv) (i:Nat) (d:D),(onlyGo l k ρ).at i=some d→(k+i)∈l∧ρ.at i=some d
  | l,k,[],i,d,h=>by simp [onlyGo,PEnv.at] at h
  | l,k,e::r,0,d,h=>by
    simp only [onlyGo,PEnv.at] at h
    split at h
    · rename_i hc
      exact ⟨by simpa using hc,by simpa [PEnv.at] using h⟩
    · cases h
  | l,k,e::r,i+1,d,h=>by
    simp only [onlyGo,PEnv.at] at h
    obtain ⟨h1,h2⟩:=onlyGo_at l (k+1) r i d h
    exact ⟨by rw [show k+(i+1)=k+1+i by omega]; exact h1,by simpa [PEnv.at] using h2⟩
theorem only_at {ρ:PEnv} {l:List Nat} {i:Nat} {d:D} (h:(ρ.only l).at i=some d):i∈l∧ρ.at i=some d:=by
  have:=onlyGo_at l 0 ρ i d h
  rw [Nat.zero_add] at this
  exact this
noncomputable def Cx.block (c:Cx) (E:Value→Shared→Prop) (env:Env) (σ:Store) (P:Addr→Prop) (s:Shared):Cx:=
  { c with E:=E,X:=fun _ _=>False,cur:=none,F₀:=FrA env,σ₀:=σ,s₀:=s,P₀:=P,exc:=fun _ _ _ _ h=>h.elim }
theorem Good.block {ρ:PEnv} {σ:Store} {P:Addr→Prop} {s:Shared} {E₁:Value→Shared→Prop} {σa:Store} {Pa:Addr→Prop} {sa:Shared} (g:Good c nm vs env ρ σ P s) (co:CompOk nm vs env sc x fr) (eo:EnvOk nm vs env) {C:Addr} (hC:∃ m,s.heap.Ns C m) (hb:c.b.get? C=none) (hd:¬ dom σ C) (hsn:Step c.W (FrA (compEnvC sc (clOf env sc) C env)) σa σ sa s) (hpa:∀ a,Pa a→P a) :
    Good (c.block E₁ (compEnvC sc (clOf env sc) C env) σa Pa sa) nm (x::fr) (compEnvC sc (clOf env sc) C env) (ρ.only fr) σ P s:=by
  refine ⟨g.base,hC,fun y ca hy=>g.cell y ca (cl_from (co.cellsOf eo) hy),fun i d e=>?_,g.st,fun a ha=>⟨(g.own a ha).1,fun hf=>?_⟩,fun a hf=>?_,g.prot,g.wp,g.wb,g.fr,hpa,hsn,fun i C hc=>by cases hc⟩
  · obtain ⟨hi,hρ⟩:=only_at e
    obtain ⟨_,v,hv,hr⟩:=g.var i d hρ
    obtain ⟨_,hm,hk⟩:=co.frees i hi
    refine ⟨List.mem_cons_of_mem _ hi,v,.inr ?_,hr⟩
    rcases hv with ⟨hk',_⟩ | ⟨_,ca,hca,hcell⟩
    · rw [hk] at hk'; cases hk'
    · refine ⟨?_,ca,cl_lookup hm hca,hcell⟩
      show (relabel sc env).names.lookup (nm i)=some .cell
      rw [relabel_lookup co.nodup hm,eo.kind,hk]; rfl
  · rcases hf with rfl | ⟨y,hy⟩
    · exact hd ha
    · exact (g.own a ha).2 (.inr ⟨y,cl_from (co.cellsOf eo) hy⟩)
  · rcases hf with rfl | ⟨y,hy⟩
    · exact hb
    · exact g.fresh a (.inr ⟨y,cl_from (co.cellsOf eo) hy⟩)
end
noncomputable def SndV (c:Cx) (A:Around) (nm:Nat→Str) (vs:List Nat) (env:Env) (x:VT) (e:Expr):Prop:=∀ ρ σ Φ,x.v ρ σ Φ→WPv c A nm vs env ρ σ (eval e env) Φ
noncomputable def SndT (c:Cx) (A:Around) (nm:Nat→Str) (vs:List Nat) (env:Env) (x:VT) (e:Expr):Prop:=∀ ρ σ Φ,x.t ρ σ Φ→WPb c A nm vs env ρ σ (isTrue e env (eval e env)) Φ
inductive SndL (c:Cx) (A:Around) (nm:Nat→Str) (vs:List Nat) (env:Env):List VT→List Expr→Prop
  | nil:SndL c A nm vs env [] []
  | cons {x e xs es}:SndV c A nm vs env x e→SndT c A nm vs env x e→SndL c A nm vs env xs es→SndL c A nm vs env (x::xs) (e::es)
section
variable {c:Cx} {A:Around} {nm:Nat→Str} {vs:List Nat} {env:Env}
theorem ifs_false (es:List Expr):(forIn es false fun e r=>if r=true then do let ok←isTrue e env (eval e env); pure (ForInStep.yield ok) else pure (ForInStep.yield r):Sem Bool)=pure false:=by
  induction es with
  | nil=>rfl
  | cons e r ih=>rw [List.forIn_cons]; simp only [Bool.false_eq_true,if_false,pure_bind]; exact ih
set_option tactic.hygienic true in
theorem ifs_sound {xs:List VT} {es:List Expr} (h:SndL c A nm vs env xs es):∀ ρ σ Φ,ifsT xs ρ σ Φ→
    WPb c A nm vs env ρ σ (forIn es true fun e r=>if r=true then do let ok←isTrue e env (eval e env); pure (ForInStep.yield ok) else pure (ForInStep.yield r)) Φ:=by
  induction h with
  | nil=>intro ρ σ Φ h P s g Q hQ; rw [List.forIn_nil]; exact wpAny_pure (hQ true σ s h (Step.refl _ _ _ _) g.st)
  | cons hv ht _ ih=>
    intro ρ σ Φ h P s g Q hQ
    rw [List.forIn_cons]
    simp only [ifsT] at h
    simp only [if_true]
    refine wpAny_bind (wpAny_bind (ht ρ σ _ h P s g _ fun b σ₁ s₁ hb st₁ ok₁=>wpAny_pure ?_))
    show wpAny c.M A (forIn _ b _) Q c.E s₁
    cases b with
    | true=>exact ih ρ σ₁ Φ (hb.1 rfl) P s₁ (g.next st₁ ok₁) Q fun b' σ₂ s₂ h₂ st₂ ok₂=>hQ b' σ₂ s₂ h₂ (st₁.trans st₂) ok₂
    | false=>rw [ifs_false]; exact wpAny_pure (hQ false σ₁ s₁ (hb.2 rfl) st₁ ok₁)
theorem store_local {ρ:PEnv} {σ:Store} {P:Addr→Prop} {s:Shared} {E:Value→Shared→Prop} {x:Nat} {d:D} {v:Value} {Q:Unit→Shared→Prop} (eo:EnvOk nm vs env) (hx:x∈vs) (hff:∀ a,FrA env a→c.F₀ a) (hcu:c.cur=none) (hl:env.kindOf (nm x)=some .local) (g:Good c nm vs env ρ σ P s) (hr:Rep (nd σ P) s.heap d v)
    (hQ:∀ h' tk,Heap.SameBut env.locals s.heap h'→Good c nm vs env (ρ.put x d) σ P { s with heap:=h',toks:=tk }→Stay (nd σ P) (nd σ P) s.heap h'→Q () { s with heap:=h',toks:=tk }):wpAny c.M A (storeName env (nm x) v) Q E s:=by
  obtain ⟨m,hn⟩:=g.ns
  refine wpAny_storeName_local hl hn (fun h' hn' hs'=>?_) (by rw [eo.kind]; rfl)
  have hL:FrA env env.locals := .inl rfl
  have k:∀ b o,b≠env.locals→s.heap.get? b=some o→h'.get? b=some o:=fun b o hb e=>hs'.extBut b o hb e
  have st:=g.stay_fr hL k
  have ndL:¬ dom σ env.locals:=fun hd=>(g.own _ hd).2 hL
  have cb:∀ (y:Str) (cb:Addr),env.cells.lookup y=some cb→cb≠env.locals:=fun y cb hy q=>by
    obtain ⟨w,o,ho,hd⟩:=g.cell y cb hy
    obtain ⟨o',es,ep,ho',hd',_⟩:=hn
    rw [q,ho'] at ho; cases ho; rw [hd'] at hd; cases hd
  have al:∀ a o,s.heap.get? a=some o→∃ o',h'.get? a=some o':=fun a o e=>by
    by_cases hb:a=env.locals
    · subst hb; obtain ⟨o',es,ep,ho',_⟩:=hn'; exact ⟨o',ho'⟩
    · exact ⟨o,k a o hb e⟩
  have stp:∀ tk,Step c.W (FrA env) σ σ s { s with heap:=h',toks:=tk }:=fun tk=>Step.mk' ⟨h',tk,rfl⟩ (fun a o e hd hf=>k a o (fun q=>hf (q▸hL)) e) al (fun a h => .inl h)
  refine hQ h' _ hs' ⟨fun a o e=>k a o (fun q=>by rw [q,g.fresh _ hL] at e; cases e) (g.base a o e),⟨_,hn'⟩,fun y ca hy=>?_,fun i e hi=>?_,g.st.fr st ndL k,g.own,g.fresh,fun a ha=>?_,g.wp,g.wb,fun e he=>?_,g.p0,g.since.trans ((stp _).weak hff),fun i C hc=>by rw [hcu] at hc; cases hc⟩ st
  · obtain ⟨w,o,ho,hd⟩:=g.cell y ca hy
    exact ⟨w,o,k ca o (cb y ca hy) ho,hd⟩
  · rcases PEnv.at_put ρ x i d e hi with ⟨rfl,rfl⟩ | ⟨hne,hi'⟩
    · exact ⟨hx,v,.inl ⟨hl,_,hn',by simp⟩,Rep.stay st _ _ hr⟩
    · obtain ⟨hm,u,hu,hru⟩:=g.var i e hi'
      refine ⟨hm,u,?_,Rep.stay st _ _ hru⟩
      rcases hu with ⟨a,m',hn2,hm2⟩ | ⟨a,ca,hc,o,ho,hd⟩
      · have:=ns_unique hn hn2
        subst this
        exact .inl ⟨a,_,hn',by rw [if_neg (fun q=>hne (eo.inj i hm x hx q))]; exact hm2⟩
      · exact .inr ⟨a,ca,hc,o,k ca o (cb _ ca hc) ho,hd⟩
  · obtain ⟨o,ho⟩:=g.prot a ha
    by_cases hb:a=env.locals
    · subst hb; obtain ⟨o',es,ep,ho',_⟩:=hn'; exact ⟨o',ho'⟩
    · exact ⟨o,k a o hb ho⟩
  · obtain ⟨q1,L',o,q2,q3,q4⟩:=g.fr e he
    by_cases hb:L'=env.locals
    · subst hb
      obtain ⟨o',es,ep,ho',hd',_⟩:=hn'
      exact ⟨q1,_,o',q2,ho',fun vs q=>by rw [hd'] at q; cases q⟩
    · exact ⟨q1,L',o,q2,k L' o hb q3,q4⟩
end
section
variable {c:Cx} {A:Around} {nm:Nat→Str} {vs:List Nat} {env:Env} {sc:Scope} {x:Nat} {fr:List Nat}
theorem put_other:∀ (r:PEnv) (a b:Nat) (z:D),b≠a→(r.put a z).at b=r.at b
  | [],_,_,_,_=>rfl
  | _::_,0,0,_,h=>absurd rfl h
  | _::_,0,_+1,_,_=>rfl
  | _::_,_+1,0,_,_=>rfl
  | _::r,a+1,b+1,z,h=>put_other r a b z fun q=>h (congrArg (·+1) q)
theorem Good.untarget {env':Env} {ρ:PEnv} {z:D} {σ':Store} {P':Addr→Prop} {s'':Shared} (co:CompOk nm vs env sc x fr) (ga:Good c nm (x::fr) env' ((ρ.only fr).put x z) σ' P' s''):Good c nm (x::fr) env' (ρ.only fr) σ' P' s'':=
  ⟨ga.base,ga.ns,ga.cell,fun i e hi=>by
    obtain ⟨hif,hρ⟩:=only_at hi
    have hne:i≠x:=fun q=>by
      subst q
      have h1:=lookup_nodup co.nodup co.targ
      have h2:=lookup_nodup co.nodup (co.frees i hif).2.1
      rw [h2] at h1; cases h1
    refine ga.var i e ?_
    rw [put_other _ _ _ _ hne]; exact hi,ga.st,ga.own,ga.fresh,ga.prot,ga.wp,ga.wb,ga.fr,ga.p0,ga.since,ga.cur⟩
set_option tactic.hygienic true in
theorem comp_turns {P':Addr→Prop} {I:Addr} {ds:List D} {ok:Store→(Addr→Prop)→Heap→Prop} {It:Nat→Heap→Prop} (T:Turns c A I ds ok It) {d:D} {v:Value} {keep:Store→Prop} {ec:Env} {C Dl:Addr} {s₀ s:Shared} {σ₀:Store} {ρ:PEnv} {vt:VT} {vts:List VT} {elt iter:Expr} {ifs:List Expr} {xp pos:Pos}
    (hok:∀ (σ:Store) (s:Shared),Rep (nd σ P') s.heap d v→StoreOk σ P' s.heap→keep σ→ok σ P' s.heap)
    (co:CompOk nm vs env sc x fr) (eoc:EnvOk nm (x::fr) ec) (hkx:ec.kindOf (nm x)=some .local) (hLC:ec.locals=C) (helt:SndV c A nm (x::fr) ec vt elt) (hifs:SndL c A nm (x::fr) ec vts ifs)
    (hff:∀ a,FrA ec a→c.F₀ a) (hcu:c.cur=none) (h0I:c.s₀.heap.get? I=none) (h0D:c.s₀.heap.get? Dl=none) (wI:¬ c.W I) (wD:¬ c.W Dl) {R:Result→Shared→Prop} (hcE:c.E=notedBy (model c.prog c.w) A ec fun e s'=>R (.error e) s')
    (bI:c.b.get? I=none) (fI:¬ FrA ec I) (pI:¬ P' I) (bD:c.b.get? Dl=none) (fD:¬ FrA ec Dl) (pD:P' Dl) (hI:s₀.heap.get? I=none) (hC:s₀.heap.get? C=none) (hD:s₀.heap.get? Dl=none) (hDC:Dl≠C) (hDI:Dl≠I) (hCI:C≠I)
    (it:It 0 s.heap) (hacc:s.heap.PlainList Dl #[]) (gb:Good c nm (x::fr) ec (ρ.only fr) σ₀ P' s) (st0:Step c.W noF σ₀ σ₀ s₀ s) (hd:Rep (nd σ₀ P') s.heap d v) (hk:keep σ₀) (hsz:ds.length≤small) {Ψ:List D→Store→Prop} {stp:D→Store→(Option D→Store→Prop)→Prop}
    (hstp:stp=fun e σ' K=>ifsT vts ((ρ.only fr).put x e) σ' fun b σ''=>(b=true→vt.v ((ρ.only fr).put x e) σ'' fun r σ₃=>K (some r) σ₃)∧(b=false→K Option.none σ'')) (hcomp:compS stp keep ds σ₀ [] Ψ)
    (hR:∀ s' us out σ',Ψ out σ'→¬ dom σ' C→(∃ m,s'.heap.Ns C m)→s'.heap.PlainList Dl us→RepL (nd σ' P') s'.heap out us.toList→StoreOk σ' P' s'.heap→Step c.W noF σ₀ σ' s₀ s'→R (.ok .next) s') :
    codeAny c.M A (.compLoop (.ListComp elt [⟨.Name (nm x) xp,iter,ifs,0⟩] sc pos) 0 (.ref I) (.ref Dl) ec) R s:=by
  refine codeAny_compLoop_tests
    (fun n s'=>∃ k σ acc us,k≤ds.length∧n=ds.length - k∧It k s'.heap∧Good c nm (x::fr) ec (ρ.only fr) σ P' s'∧Step c.W noF σ₀ σ s₀ s'∧
      Rep (nd σ P') s'.heap d v∧keep σ∧s'.heap.PlainList Dl us∧RepL (nd σ P') s'.heap acc us.toList∧acc.length≤k∧
      compS stp keep (ds.drop k) σ acc Ψ)
    ?_ ds.length ⟨0,σ₀,[],#[],Nat.zero_le _,rfl,it,gb,st0,hd,hk,hacc,.nil,Nat.le_refl _,hcomp⟩
  rw [← hcE]
  rintro n s' ⟨k,σ,acc,us,hkl,rfl,it',g',st',hd',hk',hl',hr',hal',hc'⟩
  obtain ⟨oI,ws,hoI,hdI⟩:=T.alive k _ it'
  by_cases hlt:k<ds.length
  · have hget:ds[k]?=some ds[k]:=List.getElem?_eq_getElem hlt
    have hdrop:ds.drop k=ds[k]::ds.drop (k+1):=List.drop_eq_getElem_cons hlt
    rw [hdrop] at hc'
    subst hstp
    simp only [compS] at hc'
    refine T.item k _ s' σ _ _ _ hget it' (hok σ s' hd' g'.st hk') fun u h₁ tk₁ it₁ hs₁ hr₁=>?_
    have kb:∀ b o,b≠I→s'.heap.get? b=some o→h₁.get? b=some o:=fun b o hb e=>hs₁.extBut b o hb e
    obtain ⟨g₁,stay₁⟩:=g'.change hcu h0I wI bI fI (not_dom_of_fields g'.st hoI hdI) (fun o items n _ ho=>by rw [hoI] at ho; cases ho; rw [hdI]; exact fun e=>by cases e) (tk:=tk₁)
      (fun q=>(pI q).elim) kb
    have st₁:Step c.W noF σ₀ σ s₀ { s' with heap:=h₁,toks:=tk₁ }:=st'.but hI kb
    have hl₁:h₁.PlainList Dl us:=hl'.at fun o e=>kb Dl o hDI e
    refine wpAny_assign_Name (store_local eoc List.mem_cons_self hff hcu hkx g₁ (Rep.stay stay₁ _ _ hr₁) fun h₂ tk₂ hs₂ g₂ stay₂=>?_)
    rw [hLC] at hs₂
    have kc:∀ b o,b≠C→h₁.get? b=some o→h₂.get? b=some o:=fun b o hb e=>hs₂.extBut b o hb e
    have st₂:Step c.W noF σ₀ σ s₀ { s' with heap:=h₂,toks:=tk₂ }:=st₁.but hC kc
    have it₂:It (k+1) h₂:=T.mv _ _ _ it₁ fun o e=>kc I o hCI.symm e
    have hl₂:h₂.PlainList Dl us:=hl₁.at fun o e=>kc Dl o hDC e
    have hr₂:RepL (nd σ P') h₂ acc us.toList:=RepL.stay stay₂ _ _ (RepL.stay stay₁ _ _ hr')
    have hd₂:Rep (nd σ P') h₂ d v:=Rep.stay stay₂ _ _ (Rep.stay stay₁ _ _ hd')
    have keepI:∀ (σa σb:Store) (sa sb:Shared) (ρa:PEnv) (j:Nat),Good c nm (x::fr) ec ρa σa P' sa→Step c.W noF σa σb sa sb→It j sa.heap→It j sb.heap:=fun σa σb sa sb ρa j ga st i=>by
      obtain ⟨o,w,ho,hd⟩:=T.alive j _ i
      exact T.mv _ _ _ i fun o' e=>st.keep I o' e (not_dom_of_fields ga.st ho hd) (fun h=>h) wI
    have keepD:∀ (σa σb:Store) (sa sb:Shared) (ρa:PEnv) (ws:Array Value),Good c nm (x::fr) ec ρa σa P' sa→Step c.W noF σa σb sa sb→sa.heap.PlainList Dl ws→sb.heap.PlainList Dl ws:=fun σa σb sa sb ρa ws ga st hl=>by
      exact hl.at fun o ho=>st.keep Dl o ho (fun hd=>ga.st.free Dl hd pD) (fun h=>h) wD
    refine ifs_sound hifs _ _ _ hc' _ _ g₂ _ fun b σ₃ s₃ hb st₃ ok₃=>?_
    have g₃:=g₂.next st₃ ok₃
    have it₃:=keepI _ _ _ _ _ _ g₂ st₃ it₂
    have hl₃:=keepD _ _ _ _ _ _ g₂ st₃ hl₂
    have hr₃:=RepL.stay (st₃.stay g₂.wp) _ _ hr₂
    have hd₃:=Rep.stay (st₃.stay g₂.wp) _ _ hd₂
    have st03:=st₂.trans st₃
    cases b with
    | false=>
      simp only [Bool.false_eq_true,if_false]
      have:=hb.2 rfl
      simp only [Option.toList_none,List.append_nil] at this
      exact ⟨ds.length - (k+1),by omega,k+1,σ₃,acc,us,hlt,rfl,it₃,Good.untarget co g₃,st03,hd₃,this.1,hl₃,hr₃,by omega,this.2⟩
    | true=>
      simp only [if_true]
      refine helt _ _ _ (hb.1 rfl) _ _ g₃ _ fun y dy σ₄ s₄ hK st₄ ok₄ ry=>?_
      have g₄:=g₃.next st₄ ok₄
      have it₄:=keepI _ _ _ _ _ _ g₃ st₄ it₃
      have hl₄:=keepD _ _ _ _ _ _ g₃ st₄ hl₃
      have hr₄:=RepL.stay (st₄.stay g₃.wp) _ _ hr₃
      have hd₄:=Rep.stay (st₄.stay g₃.wp) _ _ hd₃
      have st04:=st03.trans st₄
      have el:=hr₄.length
      simp only [Array.length_toList] at el
      refine wpAny_list_append_plain hl₄ (fun h₅ hl₅ hs₅=>?_) (by have:=sizeLine_small; omega)
      have kd:∀ b o,b≠Dl→s₄.heap.get? b=some o→h₅.get? b=some o:=fun b o hb e=>hs₅.extBut b o hb e
      obtain ⟨g₅,stay₅⟩:=g₄.change hcu h0D wD bD fD (fun hd=>g₄.st.free Dl hd pD) (fun o items n hn=>absurd pD hn.2) (tk:=s₄.toks)
        (fun _=>let ⟨_,ho⟩:=hl₅; ⟨_,ho⟩) kd
      have st05:Step c.W noF σ₀ σ₄ s₀ { s₄ with heap:=h₅ }:=st04.but hD kd
      obtain ⟨oI',ws',hoI',hdI'⟩:=T.alive (k+1) _ it₄
      refine ⟨ds.length - (k+1),by omega,k+1,σ₄,acc++[dy],us.push y,hlt,rfl,T.mv _ _ _ it₄ fun o e=>kd I o hDI.symm e,Good.untarget co g₅,st05,Rep.stay stay₅ _ _ hd₄,hK.1,hl₅,?_,by rw [List.length_append,List.length_singleton]; omega,by simpa using hK.2⟩
      have:=RepL.append (RepL.stay stay₅ _ _ hr₄) (RepL.one (Rep.stay stay₅ _ _ ry))
      simpa using this
  · have hke:k=ds.length:=by omega
    subst hke
    rw [List.drop_length] at hc'
    simp only [compS] at hc'
    refine T.done s' σ _ _ _ it' (hok σ s' hd' g'.st hk') fun h₁ tk₁ he₁=>?_
    have kb:∀ b o,b≠I→s'.heap.get? b=some o→h₁.get? b=some o:=fun b o hb e=>he₁ b o hb e
    obtain ⟨g₁,stay₁⟩:=g'.change hcu h0I wI bI fI (not_dom_of_fields g'.st hoI hdI) (fun o items n _ ho=>by rw [hoI] at ho; cases ho; rw [hdI]; exact fun e=>by cases e) (tk:=tk₁)
      (fun q=>(pI q).elim) kb
    exact hR _ us acc σ hc' (fun hx=>(g₁.own C hx).2 (.inl hLC.symm)) (by have:=g₁.ns; rwa [hLC] at this) (hl'.at fun o e=>kb Dl o hDI e) (RepL.stay stay₁ _ _ hr') g₁.st (st'.but hI kb)
set_option tactic.hygienic true in
theorem comp_loop {P:Addr→Prop} {I:Addr} {ds:List D} {ok:Store→(Addr→Prop)→Heap→Prop} {It:Nat→Heap→Prop} (T:Turns c A I ds ok It) {d:D} {v:Value} {keep:Store→Prop}
    (hok:∀ (σ:Store) (P:Addr→Prop) (s:Shared),Rep (nd σ P) s.heap d v→StoreOk σ P s.heap→keep σ→ok σ P s.heap)
    (co:CompOk nm vs env sc x fr) (eo:EnvOk nm vs env) {C Dl:Addr} {xp pos:Pos} {iter elt:Expr} {ifs:List Expr} {vt:VT} {vts:List VT}
    (helt:∀ E₁ σa Pa sa,SndV (c.block E₁ (compEnvC sc (clOf env sc) C env) σa Pa sa) A nm (x::fr) (compEnvC sc (clOf env sc) C env) vt elt) (hifs:∀ E₁ σa Pa sa,SndL (c.block E₁ (compEnvC sc (clOf env sc) C env) σa Pa sa) A nm (x::fr) (compEnvC sc (clOf env sc) C env) vts ifs)
    {ρ:PEnv} {σ₀:Store} {s₀ s:Shared} (g₀:Good c nm vs env ρ σ₀ P s₀) (hI:s₀.heap.get? I=none) (hC:s₀.heap.get? C=none) (hD:s₀.heap.get? Dl=none) (hDC:Dl≠C) (hDI:Dl≠I) (hCI:C≠I)
    (hk0:∀ b o,s₀.heap.get? b=some o→s.heap.get? b=some o) (hsame:∃ h' tk,s={ s₀ with heap:=h',toks:=tk }) (it:It 0 s.heap) (hnsC:∃ m,s.heap.Ns C m) (hacc:s.heap.PlainList Dl #[])
    (hd:Rep (nd σ₀ P) s₀.heap d v) (hk:keep σ₀) (hsz:ds.length≤small) {Ψ:List D→Store→Prop}
    (hcomp:compS (fun e σ' K=>ifsT vts ((ρ.only fr).put x e) σ' fun b σ''=>(b=true→vt.v ((ρ.only fr).put x e) σ'' fun r σ₃=>K (some r) σ₃)∧(b=false→K Option.none σ'')) keep ds σ₀ [] Ψ)
    {R:Result→Shared→Prop}
    (hR:∀ s' us out σ',Ψ out σ'→¬ dom σ' C→(∃ m,s'.heap.Ns C m)→s'.heap.PlainList Dl us→RepL (nd σ' fun a=>P a∨a=Dl) s'.heap out us.toList→StoreOk σ' (fun a=>P a∨a=Dl) s'.heap→Step c.W noF σ₀ σ' s₀ s'→R (.ok .next) s') :
    codeAny c.M A (.compLoop (.ListComp elt [⟨.Name (nm x) xp,iter,ifs,0⟩] sc pos) 0 (.ref I) (.ref Dl) (compEnvC sc (clOf env sc) C env)) R s:=by
  have nob:∀ a,s₀.heap.get? a=none→c.b.get? a=none:=fun a ha=>by
    cases e:c.b.get? a with
    | none=>rfl
    | some o=>rw [g₀.base a o e] at ha; cases ha
  have nod:∀ a,s₀.heap.get? a=none→¬ dom σ₀ a:=fun a ha hx=>by obtain ⟨o,ho⟩:=g₀.st.alive hx; rw [ha] at ho; cases ho
  have nop:∀ a,s₀.heap.get? a=none→¬ P a:=fun a ha hx=>by obtain ⟨o,ho⟩:=g₀.prot a hx; rw [ha] at ho; cases ho
  have nof:∀ a,s₀.heap.get? a=none→¬ FrA env a:=fun a ha hx=>by obtain ⟨o,ho,_⟩:=g₀.fr_alive hx; rw [ha] at ho; cases ho
  have nofc:∀ a,s₀.heap.get? a=none→a≠C→¬ FrA (compEnvC sc (clOf env sc) C env) a:=fun a ha hne hx=>by
    rcases hx with rfl | ⟨y,hy⟩
    · exact hne rfl
    · exact nof a ha (.inr ⟨y,cl_from (co.cellsOf eo) hy⟩)
  have eoc:=co.envOk eo C
  have gs:Good c nm vs env ρ σ₀ P s:=by
    refine g₀.next (Step.of_keeps ?_) (g₀.st.keeps hk0)
    obtain ⟨h',tk,rfl⟩:=hsame
    exact ⟨h',tk,rfl,hk0⟩
  have stay0:Stay (nd σ₀ P) (nd σ₀ fun a=>P a∨a=Dl) s₀.heap s.heap:=fun a o hN ho _=>⟨hk0 a o ho,hN.1,fun q=>q.elim hN.2 (fun e=>by subst e; rw [hD] at ho; cases ho)⟩
  have gp:Good c nm vs env ρ σ₀ (fun a=>P a∨a=Dl) s:=by
    refine ⟨gs.base,gs.ns,gs.cell,fun i e hi=>?_,⟨fun a mo e=>?_,gs.st.apart,fun a ha q=>q.elim (gs.st.free a ha) (fun e=>nod _ hD (e▸ha))⟩,gs.own,gs.fresh,fun a ha=>?_,fun a h => .inl (gs.wp a h),gs.wb,gs.fr,fun a h => .inl (gs.p0 a h),gs.since,fun i C hc=>?_⟩
    · obtain ⟨h1,u,hu,hru⟩:=g₀.var i e hi
      refine ⟨h1,u,hu.keep' fun a o _ ho=>hk0 a o ho,Rep.stay stay0 _ _ hru⟩
    · exact MRep.stay stay0 (fun b o _ ho=>hk0 b o ho) (g₀.st.rep a mo e)
    · rcases ha with h | rfl
      · exact gs.prot a h
      · obtain ⟨n,ho⟩:=hacc; exact ⟨_,ho⟩
    · obtain ⟨h0,a,o,h1,h2,h3,h4⟩:=g₀.cur i C hc
      exact ⟨h0,a,o,h1.keep' fun a o _ ho=>hk0 a o ho,⟨h2.1,fun q=>q.elim h2.2 fun e=>by rw [e,hD] at h3; cases h3⟩,hk0 a o h3,h4⟩
  have st0:Step c.W noF σ₀ σ₀ s₀ s:=Step.of_keeps (by obtain ⟨h',tk,rfl⟩:=hsame; exact ⟨h',tk,rfl,hk0⟩)
  have now:∀ a,s₀.heap.get? a=none→¬ c.W a:=fun a ha hw=>nop a ha (g₀.wp a hw)
  have gb:Good (c.block (notedBy (model c.prog c.w) A (compEnvC sc (clOf env sc) C env) fun e s'=>R (.error e) s') (compEnvC sc (clOf env sc) C env) σ₀ (fun a=>P a∨a=Dl) s₀) nm (x::fr) (compEnvC sc (clOf env sc) C env) (ρ.only fr) σ₀ (fun a=>P a∨a=Dl) s:=
    gp.block co eo hnsC (nob C hC) (nod C hC) (st0.weak fun _ h=>h.elim) fun _ h=>h
  exact comp_turns (c:=c.block _ _ σ₀ (fun a=>P a∨a=Dl) s₀) ⟨T.mv,T.alive,T.item,T.done,T.self⟩ (fun σ s=>hok σ _ s) co eoc (by
      show (relabel sc env).names.lookup (nm x)=some .local
      rw [relabel_lookup co.nodup co.targ]; rfl) rfl (helt _ _ _ _) (hifs _ _ _ _) (fun _ h=>h) rfl hI hD (now I hI) (now Dl hD) rfl (nob I hI) (nofc I hI hCI.symm) (fun q=>q.elim (nop I hI) fun e=>hDI e.symm) (nob Dl hD) (nofc Dl hD hDC) (.inr rfl) hI hC hD hDC hDI hCI it hacc gb st0 (Rep.stay stay0 _ _ hd) hk hsz rfl hcomp hR
end
theorem ne_of_lt_succ {b n m:Nat} (h:b<n) (e:m=n+1):b≠m:=by omega
noncomputable def ItV (c:Cx) (A:Around) (d:D) (ds:List D) (σ:Store) (P:Addr→Prop) (xv:Value) (s:Shared):Prop:=
  ∃ v,Rep (nd σ P) s.heap d v∧keepS d ds σ∧∀ (Q:Value→Shared→Prop) (E:Value→Shared→Prop),
    (∀ I ok It s₂,s.heap.get? I=none→Keeps s s₂→Turns c A I ds ok It→It 0 s₂.heap→(∀ (σ':Store) (P':Addr→Prop) (s':Shared),Rep (nd σ' P') s'.heap d v→StoreOk σ' P' s'.heap→keepS d ds σ'→ok σ' P' s'.heap)→Q (.ref I) s₂)→wpAny c.M A (pyIter xv) Q E s
noncomputable def SndI (c:Cx) (A:Around) (nm:Nat→Str) (vs:List Nat) (env:Env) (tr:PEnv→Store→(D→List D→Store→Prop)→Prop) (e:Expr):Prop:=
  ∀ ρ σ Φ,tr ρ σ Φ→∀ P s,Good c nm vs env ρ σ P s→∀ (Q:Value→Shared→Prop),
    (∀ xv d ds σ' s',Φ d ds σ'→Step c.W noF σ σ' s s'→StoreOk σ' P s'.heap→ItV c A d ds σ' P xv s'→Q xv s')→wpAny c.M A (eval e env) Q c.E s
section
variable {c:Cx} {A:Around} {nm:Nat→Str} {vs:List Nat} {env:Env}
set_option tactic.hygienic true in
theorem itv_seq {σ:Store} {P:Addr→Prop} {s:Shared} {d:D} {ds:List D} {v:Value} (hh:A.handled=none) (ok:StoreOk σ P s.heap) (hr:Rep (nd σ P) s.heap d v) (e:asL σ d=some ds):ItV c A d ds σ P v s:=by
  cases d <;> simp only [asL] at e <;> try cases e
  · -- tuple
    have hr':=hr
    simp only [Rep] at hr
    obtain ⟨a,us,rfl,_,hl,hw⟩:=hr
    refine ⟨_,hr',trivial,fun Q E hQ=>wpAny_pyIter_tuple hl (hQ s.heap.objs.size _ _ _ (get?_size_none _) (keeps_push' s _) (Turns.tuple hh _ a ds) ⟨_,Heap.get?_push_size _ rfl,rfl,rfl⟩ fun σ' P' s' hr2 ok2 _=>?_)⟩
    simp only [Rep] at hr2
    obtain ⟨a',us',q,_,hl',hw'⟩:=hr2
    cases q
    exact ⟨us',by rw [if_neg (by decide)]; exact hl',hw'⟩
  · -- list
    have hr':=hr
    simp only [Rep] at hr
    obtain ⟨a,us,rfl,_,hl,hw⟩:=hr
    refine ⟨_,hr',trivial,fun Q E hQ=>wpAny_pyIter_list hl (hQ s.heap.objs.size _ _ _ (get?_size_none _) (keeps_push' s _) (Turns.list hh _ a ds) ⟨_,Heap.get?_push_size _ rfl,rfl,rfl⟩ fun σ' P' s' hr2 ok2 _=>?_)⟩
    simp only [Rep] at hr2
    obtain ⟨a',us',q,_,hl',hw'⟩:=hr2
    cases q
    exact ⟨us',by rw [if_pos rfl]; exact hl',hw'⟩
  · rename_i a
    have hr':=hr
    simp only [Rep] at hr
    subst hr
    cases h:σ a with
    | none=>rw [h] at e; cases e
    | some mo=>
      rw [h] at e
      cases mo with
      | mlist xs=>
        cases e
        obtain ⟨us,hl,hw⟩:=ok.rep a _ h
        refine ⟨_,hr',h,fun Q E hQ=>wpAny_pyIter_list hl.isList (hQ s.heap.objs.size _ _ _ (get?_size_none _) (keeps_push' s _) (Turns.list hh _ a ds) ⟨_,Heap.get?_push_size _ rfl,rfl,rfl⟩ fun σ' P' s' hr2 ok2 hk2=>?_)⟩
        obtain ⟨us',hl',hw'⟩:=ok2.rep a _ hk2
        exact ⟨us',by rw [if_pos rfl]; exact hl'.isList,hw'⟩
      | inst C dx fs=>cases e
      | mdict kvs=>cases e
theorem itv_range {σ:Store} {P:Addr→Prop} {s:Shared} {r:Addr} {n:Int} {t u w:Tok} (hh:A.handled=none) (hr:IsRange s.heap r 0 n 1 t u w) (h1:n≤small) (h2 : -small≤n):ItV c A .none (rangeD n) σ P (.ref r) s:=by
  unfold small at h1 h2
  refine ⟨.none,rep_none,trivial,fun Q E hQ=>wpAny_pyIter_range hr (small_one (by omega) (by omega) (by omega) (by omega)) (hQ s.heap.objs.size _ _ _ (get?_size_none _) (keeps_push' s _) (Turns.range hh _ n) ?_ fun _ _ _ _ _ _=>trivial)⟩
  show IsRangeIter _ _ ((0:Nat):Int) ((n.toNat:Int) - ((0:Nat):Int)) 1
  have e:Builtin.Range.rangeSize 0 n 1=(n.toNat:Int) - ((0:Nat):Int):=by rw [rangeSize_one]; split <;> omega
  rw [← e]
  exact Heap.get?_push_size _ rfl
theorem comp_block {P:Addr→Prop} {sc:Scope} {x:Nat} {fr:List Nat} {I:Addr} {ds:List D} {ok:Store→(Addr→Prop)→Heap→Prop} {It:Nat→Heap→Prop} (T:Turns c A I ds ok It) {d:D} {v:Value} {keep:Store→Prop}
    (hok:∀ (σ:Store) (P:Addr→Prop) (s:Shared),Rep (nd σ P) s.heap d v→StoreOk σ P s.heap→keep σ→ok σ P s.heap)
    (co:CompOk nm vs env sc x fr) (eo:EnvOk nm vs env) {xp pos:Pos} {iter elt:Expr} {ifs:List Expr} {vt:VT} {vts:List VT}
    (helt:∀ C E₁ σa Pa sa,SndV (c.block E₁ (compEnvC sc (clOf env sc) C env) σa Pa sa) A nm (x::fr) (compEnvC sc (clOf env sc) C env) vt elt) (hifs:∀ C E₁ σa Pa sa,SndL (c.block E₁ (compEnvC sc (clOf env sc) C env) σa Pa sa) A nm (x::fr) (compEnvC sc (clOf env sc) C env) vts ifs)
    {ρ:PEnv} {σ₀:Store} {s₀ s:Shared} (g₀:Good c nm vs env ρ σ₀ P s₀) (hI:s₀.heap.get? I=none) (kp:Keeps s₀ s) (it:It 0 s.heap) (hd:Rep (nd σ₀ P) s₀.heap d v) (hk:keep σ₀) (hsz:ds.length≤small) {Ψ:List D→Store→Prop}
    (hcomp:compS (fun e σ' K=>ifsT vts ((ρ.only fr).put x e) σ' fun b σ''=>(b=true→vt.v ((ρ.only fr).put x e) σ'' fun r σ₃=>K (some r) σ₃)∧(b=false→K Option.none σ'')) keep ds σ₀ [] Ψ)
    {RR:Value→Addr→Result→Shared→Prop} {E:Value→Shared→Prop}
    (hR:∀ Dl C s' us out σ',s₀.heap.get? Dl=none→s₀.heap.get? C=none→Dl≠C→Ψ out σ'→¬ dom σ' C→(∃ m,s'.heap.Ns C m)→s'.heap.PlainList Dl us→RepL (nd σ' fun a=>P a∨a=Dl) s'.heap out us.toList→StoreOk σ' (fun a=>P a∨a=Dl) s'.heap→Step c.W noF σ₀ σ' s₀ s'→
      RR (.ref Dl) C (.ok .next) s') :
    wpAny c.M A (newList []) (fun acc s₃=>wpAny c.M A (newFunctionEnv sc env.globals (clOf env sc) [] env.qual Option.none .none (some env)) (fun cenv s₄=>
      codeAny c.M A (.compStart (.ListComp elt [⟨.Name (nm x) xp,iter,ifs,0⟩] sc pos) 0 (.ref I) acc { cenv with scope:=relabel sc env }) (RR acc cenv.locals) s₄) E s₃) E s:=by
  obtain ⟨h₂,tk₂,rfl,hk2⟩:=kp
  obtain ⟨oI,ws,hoI,_⟩:=T.alive 0 _ it
  refine wpAny_newObj_type (wpAny_newFunctionEnv co.nocell (by intro y hy; simp at hy) (fun h₁ hns₁ hsb₁=>?_) co.kind)
  dsimp only at hns₁ hsb₁ hoI it ⊢
  generalize hH2:h₂.push { cls := .type "list",dict:=Option.none,data := .seq ([]:List Value).toArray }=H2 at hns₁ hsb₁ ⊢
  have hC:H2.objs.size=h₂.objs.size+1:=by rw [← hH2,Heap.size_push]
  have hDC:h₂.objs.size≠H2.objs.size:=by omega
  have old:∀ b o,h₂.get? b=some o→h₁.get? b=some o:=fun b o e=>hsb₁.extBut b o (ne_of_lt_succ (Heap.lt_size e) hC) (Heap.get?_push_of_some _ (hH2▸Heap.get?_push_of_some _ e))
  have none0:∀ a,h₂.objs.size≤a→s₀.heap.get? a=none:=fun a ha=>by
    cases e:s₀.heap.get? a with
    | none=>rfl
    | some o'=>exact absurd (Heap.lt_size (hk2 _ _ e)) (Nat.not_lt.mpr ha)
  have hacc:h₁.PlainList h₂.objs.size #[]:=⟨0,hsb₁.extBut _ _ hDC (Heap.get?_push_of_some _ (hH2▸Heap.get?_push_size _ rfl))⟩
  have hIlt:=Heap.lt_size hoI
  have it₁:It 0 h₁:=T.mv _ _ _ it fun o e=>old I o e
  have loop:∀ s₃:Shared,s₃={ s₀ with heap:=h₁,toks:=tk₂+([]:List (Str×Value)).length }→
      codeAny c.M A (.compLoop (.ListComp elt [⟨.Name (nm x) xp,iter,ifs,0⟩] sc pos) 0 (.ref I) (.ref h₂.objs.size) (compEnvC sc (clOf env sc) H2.objs.size env)) (RR (.ref h₂.objs.size) H2.objs.size) s₃:=by
    rintro s₃ rfl
    exact comp_loop T hok co eo (helt _) (hifs _) g₀ hI (none0 _ (by omega)) (none0 _ (Nat.le_refl _)) hDC (Nat.ne_of_gt hIlt) (fun q=>ne_of_lt_succ hIlt hC q.symm) (fun b o e=>old b o (hk2 b o e)) ⟨_,_,rfl⟩ it₁ ⟨_,hns₁⟩ hacc hd hk hsz hcomp
      fun s' us out σ' h1 h2 h3 h4 h5 h6 h7=>hR _ _ s' us out σ' (none0 _ (Nat.le_refl _)) (none0 _ (by omega)) hDC h1 h2 h3 h4 h5 h6 h7
  refine codeAny_compStart_list (loop _ rfl) ?_
  have g1:StoreOk σ₀ P h₁:=g₀.st.keeps fun b o e=>old b o (hk2 b o e)
  refine T.self 0 _ σ₀ P _ _ it₁ (hok σ₀ P { s₀ with heap:=h₁,toks:=tk₂+([]:List (Str×Value)).length } (hd.keeps fun b o e=>old b o (hk2 b o e)) g1 hk) ?_
  exact loop _ rfl
end
section
variable {c:Cx} {A:Around} {nm:Nat→Str} {vs:List Nat} {env:Env}
theorem RepL.weakP {σ:Store} {P P':Addr→Prop} {h:Heap} {ds:List D} {us:List Value} (x:RepL (nd σ P') h ds us) (hp:∀ a,P a→P' a):RepL (nd σ P) h ds us:=
  RepL.stay (fun b o hN ho _=>⟨ho,hN.1,fun q=>hN.2 (hp b q)⟩) _ _ x
theorem comp_fin {σ₁ σ':Store} {P:Addr→Prop} {s₁ s':Shared} {Dl:Addr} {us:Array Value} {out:List D} {m:Bool} {Φ:D→Store→Prop} (hΦ:mkS m out σ' Φ) (hD:s₁.heap.get? Dl=none) (hPD:¬ P Dl) (hl:s'.heap.PlainList Dl us)
    (hr:RepL (nd σ' fun a=>P a∨a=Dl) s'.heap out us.toList) (ok:StoreOk σ' (fun a=>P a∨a=Dl) s'.heap) (st:Step c.W noF σ₁ σ' s₁ s') :
    ∃ d σ'',Φ d σ''∧Step c.W noF σ₁ σ'' s₁ s'∧StoreOk σ'' P s'.heap∧Rep (nd σ'' P) s'.heap d (.ref Dl)∧∀ a,dom σ'' a→dom σ' a∨a=Dl:=by
  unfold mkS at hΦ
  cases m with
  | false=>
    simp only [Bool.false_eq_true,if_false] at hΦ
    refine ⟨.list out,σ',hΦ,st,ok.weak fun a h => .inl h,?_,fun a h => .inl h⟩
    simp only [Rep]
    exact ⟨Dl,us,rfl,⟨fun hd=>ok.free Dl hd (.inr rfl),hPD⟩,hl.isList,hr.weakP fun a h => .inl h⟩
  | true=>
    simp only [if_true] at hΦ
    obtain ⟨hf,ok2⟩:=adopt ok (fun b=>Iff.rfl) hPD hl hr
    refine ⟨.obj Dl,_,hΦ Dl hf,⟨st.same,st.keep,st.slot,st.alive,fun a ha=>?_⟩,ok2,by simp [Rep],fun a ha=>dom_set ha⟩
    rcases dom_set ha with h | rfl
    · exact st.new a h
    · exact .inr hD
theorem comp_pre {σ:Store} {P:Addr→Prop} {s:Shared} {C:Addr} {h':Heap} (hn:∃ m,s.heap.Ns C m) (hs:Heap.SameBut C s.heap h'):Stay (nd σ P) (nd σ P) s.heap h':=fun a o hN ho hd=>by
  refine ⟨hs.extBut a o (fun e=>?_) ho,hN⟩
  obtain ⟨m,o',es,ep,ho',hd',_⟩:=hn
  subst e
  rw [ho'] at ho; cases ho; obtain ⟨_,_,q⟩:=hd; rw [hd'] at q; cases q
set_option tactic.hygienic true in
theorem R_comp {sc:Scope} {x:Nat} {fr:List Nat} {xp pos:Pos} {iter elt:Expr} {ifs:List Expr} {vt:VT} {vts:List VT} {tr:PEnv→Store→(D→List D→Store→Prop)→Prop} (hs:∀ v,foldedSetIterable iter env v=pure v)
    (co:CompOk nm vs env sc x fr) (eo:EnvOk nm vs env) (hiter:SndI c A nm vs env tr iter) (helt:∀ C E₁ σa Pa sa,SndV (c.block E₁ (compEnvC sc (clOf env sc) C env) σa Pa sa) A nm (x::fr) (compEnvC sc (clOf env sc) C env) vt elt) (hifs:∀ C E₁ σa Pa sa,SndL (c.block E₁ (compEnvC sc (clOf env sc) C env) σa Pa sa) A nm (x::fr) (compEnvC sc (clOf env sc) C env) vts ifs)
    {m:Bool} {ρ:PEnv} {σ:Store} {Φ:D→Store→Prop}
    (h:tr ρ σ fun d ds σ₁=>ds.length≤small∧compS (fun e σ' K=>ifsT vts ((ρ.only fr).put x e) σ' fun b σ''=>(b=true→vt.v ((ρ.only fr).put x e) σ'' fun r σ₃=>K (some r) σ₃)∧(b=false→K Option.none σ'')) (keepS d ds) ds σ₁ [] fun out σ₂=>mkS m out σ₂ Φ) :
    WPv c A nm vs env ρ σ (eval (.ListComp elt [⟨.Name (nm x) xp,iter,ifs,0⟩] sc pos) env) Φ:=by
  intro P s g Q hQ
  rw [eval_ListComp]
  refine wpAny_comprehension_free (use:=Option.none) rfl hs (closureFor_eq (co.cellsOf eo)) co.kind (fun y hy hl=>by obtain ⟨n,k⟩:=y; simp only at hl; subst hl; exact lookup_nodup co.nodup hy) ?_
  refine hiter ρ σ _ h P s g _ fun xv d ds σ₁ s₁ hΦ st₁ ok₁ itv=>?_
  obtain ⟨v,hr,hk,hit⟩:=itv
  have g₁:=g.next st₁ ok₁
  refine hit _ _ fun I ok It s₂ hI kp T it hok=>?_
  refine comp_block T hok co eo helt hifs g₁ hI kp it hr hk hΦ.1 hΦ.2 (RR:=fun acc C=>compPost c.M A c.E Option.none Q acc C) ?_
  intro Dl C s' us out σ' hD hC hDC hΨ hdC hn hl hrl ok' st'
  obtain ⟨mm,hnn⟩:=hn
  refine ⟨mm,hnn,fun h'' hs''=>?_⟩
  have k'':∀ b o,b≠C→s'.heap.get? b=some o→h''.get? b=some o:=fun b o hb e=>hs''.extBut b o hb e
  have stay'':Stay (nd σ' fun a=>P a∨a=Dl) (nd σ' fun a=>P a∨a=Dl) s'.heap h'':=comp_pre ⟨mm,hnn⟩ hs''
  have ok'':StoreOk σ' (fun a=>P a∨a=Dl) h'':=ok'.fr stay'' hdC k''
  have hl'':h''.PlainList Dl us:=hl.at fun o e=>k'' Dl o hDC e
  obtain ⟨e,σ'',q1,q2,q3,q4,_⟩:=comp_fin (s':={ s' with heap:=h'' }) hΨ hD (fun hp=>by obtain ⟨o,ho⟩:=g₁.prot _ hp; rw [hD] at ho; cases ho) hl'' (RepL.stay stay'' _ _ hrl) ok'' (st'.but (tk:=s'.toks) hC k'')
  exact hQ _ e σ'' _ q1 (st₁.trans q2) q3 q4
set_option tactic.hygienic true in
theorem R_assign_comp {sc:Scope} {x y:Nat} {fr:List Nat} {xp yp pos spos:Pos} {iter elt:Expr} {ifs:List Expr} {vt:VT} {vts:List VT} {tr:PEnv→Store→(D→List D→Store→Prop)→Prop} (hs:∀ v,foldedSetIterable iter env v=pure v)
    (hsw:swapsWith (.ListComp elt [⟨.Name (nm x) xp,iter,ifs,0⟩] sc pos) (some (.Name (nm y) yp)) spos.line env=pure true) (hy:y∈vs) (hff:∀ a,FrA env a→c.F₀ a) (hcu:c.cur=none)
    (co:CompOk nm vs env sc x fr) (eo:EnvOk nm vs env) (hiter:SndI c A nm vs env tr iter) (helt:∀ C E₁ σa Pa sa,SndV (c.block E₁ (compEnvC sc (clOf env sc) C env) σa Pa sa) A nm (x::fr) (compEnvC sc (clOf env sc) C env) vt elt) (hifs:∀ C E₁ σa Pa sa,SndL (c.block E₁ (compEnvC sc (clOf env sc) C env) σa Pa sa) A nm (x::fr) (compEnvC sc (clOf env sc) C env) vts ifs)
    {m:Bool} {ρ:PEnv} {σ:Store} {Φ:Res→Prop}
    (h:tr ρ σ fun d ds σ₁=>ds.length≤small∧compS (fun e σ' K=>ifsT vts ((ρ.only fr).put x e) σ' fun b σ''=>(b=true→vt.v ((ρ.only fr).put x e) σ'' fun r σ₃=>K (some r) σ₃)∧(b=false→K Option.none σ'')) (keepS d ds) ds σ₁ [] fun out σ₂=>mkS m out σ₂ fun d σ'=>Φ (.next (ρ.put y d) σ')) :
    WPs c A nm vs env ρ σ (exec (.Assign [.Name (nm y) yp] (.ListComp elt [⟨.Name (nm x) xp,iter,ifs,0⟩] sc pos) spos) env) Φ:=by
  intro P s g Q hQ
  rw [exec_Assign_Name_used _ _ _ _ hsw]
  refine wpAny_bind (wpAny_standAt (wpAny_bind ?_))
  show wpAny _ A (do let _←comprehension (.ListComp elt [⟨.Name (nm x) xp,iter,ifs,0⟩] sc pos) sc env _ (newList []) false (eval iter env) (some (assign (.Name (nm y) yp) env))) _ _ s
  refine wpAny_bind (wpAny_mono (wpAny_comprehension_free (use:=some (assign (.Name (nm y) yp) env)) (Q:=fun _ s'=>Q .next s') rfl hs (closureFor_eq (co.cellsOf eo)) co.kind (fun y hy hl=>by obtain ⟨n,k⟩:=y; simp only at hl; subst hl; exact lookup_nodup co.nodup hy) ?_) (fun _ s' hq=>wpAny_pure (wpAny_pure hq)) fun _ _ e=>e)
  refine hiter ρ σ _ h P s g _ fun xv d ds σ₁ s₁ hΦ st₁ ok₁ itv=>?_
  obtain ⟨v,hr,hk,hit⟩:=itv
  have g₁:=g.next st₁ ok₁
  refine hit _ _ fun I ok It s₂ hI kp T it hok=>?_
  refine comp_block T hok co eo helt hifs g₁ hI kp it hr hk hΦ.1 hΦ.2 (RR:=fun acc C=>compPost c.M A c.E (some (assign (.Name (nm y) yp) env)) (fun _ s'=>Q .next s') acc C) ?_
  intro Dl C s' us out σ' hD hC hDC hΨ hdC hn hl hrl ok' st'
  obtain ⟨e,σ'',q1,q2,q3,q4,q5⟩:=comp_fin hΨ hD (fun hp=>by obtain ⟨o,ho⟩:=g₁.prot _ hp; rw [hD] at ho; cases ho) hl hrl ok' st'
  have g':=g₁.next q2 q3
  have nfC:¬ FrA env C:=fun hf=>by obtain ⟨o,ho,_⟩:=g₁.fr_alive hf; rw [hC] at ho; cases ho
  have ndC:¬ dom σ'' C:=fun hd=>(q5 C hd).elim hdC (fun q=>hDC q.symm)
  show wpAny _ A (assign (.Name (nm y) yp) env (.ref Dl)) _ _ _
  refine wpAny_assign_Name (store_sound eo hy hff (fun C q=>by rw [hcu] at q; cases q) g' q4 fun s₃ st₃ g₃=>?_)
  obtain ⟨mm,hnn⟩:=hn
  have hPC:¬ P C:=fun hp=>by obtain ⟨o,ho⟩:=g₁.prot _ hp; rw [hC] at ho; cases ho
  have hWC:¬ c.W C:=fun hw=>hPC (g₁.wp C hw)
  have h0C:c.s₀.heap.get? C=none:=by
    cases e:c.s₀.heap.get? C with
    | none=>rfl
    | some o=>obtain ⟨o',e'⟩:=g₁.since.alive C o e; rw [hC] at e'; cases e'
  have hnC:s₃.heap.Ns C mm:=hnn.at' fun o e=>st₃.keep C o e ndC nfC hWC
  refine ⟨mm,hnC,fun h'' hs''=>?_⟩
  have k'':∀ b o,b≠C→s₃.heap.get? b=some o→h''.get? b=some o:=fun b o hb e=>hs''.extBut b o hb e
  have hbC:c.b.get? C=none:=by
    cases e:c.b.get? C with
    | none=>rfl
    | some o=>rw [g₁.base C o e] at hC; cases hC
  obtain ⟨g₄,_⟩:=g₃.change hcu h0C hWC hbC nfC ndC (fun o items n _ ho hd=>by obtain ⟨o',es,ep,ho',hd',_⟩:=hnC; rw [ho'] at ho; cases ho; rw [hd'] at hd; cases hd) (tk:=s₃.toks) (fun q=>(hPC q).elim) k''
  have st04:Step c.W (FrA env) σ σ'' s { s₃ with heap:=h'' }:=by
    have a1:Step c.W (FrA env) σ₁ σ'' s₁ s₃:=(q2.weak (fun _ h=>h.elim)).trans st₃
    exact (st₁.weak (fun _ h=>h.elim)).trans (a1.but (tk:=s₃.toks) hC k'')
  exact hQ .next _ (.next (ρ.put y e) σ'') q1 st04 ⟨rfl,g₄⟩
end
structure Valid (c:Bx) (n:Nat) (f:Addr) (S:Spec):Prop where
  fn:∃ o fd,c.b.get? f=some o∧o.data = .func fd
  call:∀ A,Room n A→∀ l,A.frames=some l→∀ ds σ Φ X,S ds σ Φ X→∀ (P:Addr→Prop) (s:Shared) us,(∀ a o,c.b.get? a=some o→s.heap.get? a=some o)→StoreOk σ P s.heap→(∀ a,dom σ a→c.b.get? a=Option.none)→(∀ a,P a→∃ o,s.heap.get? a=some o)→
    (∀ a,WL l a→P a)→(∀ a,WL l a→c.b.get? a=Option.none)→Frs s.heap l→
    RepL (nd σ P) s.heap ds us→∀ (Q:Value→Shared→Prop) (E:Value→Shared→Prop),(∀ v d σ' s',Φ d σ'→Step (WL l) noF σ σ' s s'→StoreOk σ' P s'.heap→Rep (nd σ' P) s'.heap d v→Q v s')→
    (∀ e C σ' s',X C σ'→Step (WL l) noF σ σ' s s'→StoreOk σ' P s'.heap→Frs s'.heap l→Fly l s.heap e C s'.heap→E (.ref e) s')→
    codeAny c.M A (.call (.ref f) ⟨us,[]⟩) (fun r s'=>match r with | .ok (.ret v)=>Q v s' | .ok _=>False | .error e=>E e s') s
theorem Valid.mono {c:Bx} {n m:Nat} {f:Addr} {S:Spec} (V:Valid c n f S) (h:n≤m):Valid c m f S:=⟨V.fn,fun A hA=>V.call A (hA.le h)⟩
structure Tb where
  N:Nms
  gv:Nat→Value
  gl:List Nat
  fns:List Nat
  attrs:List (Nat×Str):=[]
  sets:List (Nat×Str):=[]
  meths:List (Nat×Str×Nat):=[]
  news:List (Nat×Nat):=[]
  excs:List (Nat×Nat):=[]
  subs:List (Nat×List Nat×List Nat):=[]
  isxs:List (Nat×List Nat×List Nat):=[]
  q:Bool:=true
  st:Bool:=true
  cv:Option Nat:=Option.none
structure GT (c:Bx) (n:Nat) (t:Tb) (S:Nat→Spec):Prop where
  glob:∀ g∈t.gl,c.glob (t.N.gn g)=some (t.gv g)
  fn:∀ g∈t.fns,∃ f,t.gv g = .ref f∧Valid c n f (S g)
  attr:∀ x∈t.attrs,AttrOk c.K x.1 x.2
  set:∀ x∈t.sets,SetOk c.K x.1 x.2
  meth:∀ x∈t.meths,∃ f,MethOk c.K x.1 x.2.1 f∧Valid c n f (S x.2.2)
  new:∀ x∈t.news,∃ f m,m+1≤n∧NewOk c.K x.1 f∧Valid c m f (S x.2)
noncomputable def Tb.gOk (t:Tb) (names:List (Str×NameKind)) (g:Nat):Bool:=names.contains (t.N.gn g,.globalImplicit)&&!(t.N.gn g==("__debug__" : Str))&&t.gl.contains g
noncomputable def Tb.gOkQ (t:Tb) (names:List (Str×NameKind)) (g:Nat):Bool:=t.q&&t.gOk names g
noncomputable def compChk (t:Tb) (names:List (Str×NameKind)) (vs:List Nat) (sc:Scope) (x:Nat) (fr:List Nat):Bool:=
  sc.kind == .function&&decide (sc.names.map (·.1)).Nodup&&sc.names.contains (t.N.nm x,.local) &&
  fr.all (fun i=>vs.contains i&&sc.names.contains (t.N.nm i,.free)&&names.contains (t.N.nm i,.cell)) &&
  sc.names.all (fun y=>y.2 != .free || fr.any fun i=>t.N.nm i==y.1)&&sc.names.all (fun y=>y.2 != .cell)&&!(t.N.nm x==("__debug__" : Str))
noncomputable def baseOk:PE→Bool
  | .call _ _ [] _=>false
  | .bi _ _ _ _ [] _=>false
  | .new _ _ _ _ [] _=>false
  | _=>true
mutual
noncomputable def wf (t:Tb) (names:List (Str×NameKind)) (vs:List Nat):PE→Bool
  | .var i _=>vs.contains i
  | .cint _ _=>true
  | .cnone _=>true
  | .cbool _ _=>true
  | .cstr _ _=>true
  | .bin _ l r _=>wf t names vs l&&wf t names vs r
  | .neg e _=>wf t names vs e
  | .not e _=>wf t names vs e
  | .bop _ es _=>wfL t names vs es
  | .cmp _ l r _=>wf t names vs l&&wf t names vs r
  | .cmp2 _ _ a b c _=>wf t names vs a&&wf t names vs b&&wf t names vs c
  | .call g _ args _=>t.gOkQ names g&&t.fns.contains g&&!args.isEmpty&&wfL t names vs args
  | .bi b _ g _ args _=>t.gOkQ names g&&t.gv g==b.val&&!args.isEmpty&&wfL t names vs args
  | .isi e ty g _ gt _ _=>t.gOk names g&&t.gv g == .builtin "isinstance" && t.gOk names gt&&t.gv gt == .type ty.name&&wf t names vs e
  | .isi2 e g _ g₁ _ g₂ _ _ _ _=>t.gOk names g&&t.gv g == .builtin "isinstance" && (t.gOk names g₁&&t.gv g₁ == .type "list")&&(t.gOk names g₂&&t.gv g₂ == .type "tuple")&&wf t names vs e
  | .isx i _ cs os g _ gt _ _=>t.gOk names g&&t.gv g == .builtin "isinstance" && t.gOk names gt&&t.isxs.contains (gt,cs,os)&&t.cv==some i
  | .sub o i _=>wf t names vs o&&wf t names vs i
  | .slc _ o lo hi _ _=>wf t names vs o&&wfO t names vs lo&&wfO t names vs hi
  | .list _ es _=>wfL t names vs es
  | .tup es _ _=>wfL t names vs es
  | .mmd mx g _ e _ _ _=>t.gOkQ names g&&t.gv g == .builtin (if mx then "max" else "min")&&wf t names vs e
  | .sset g _ g' _ e _ _=>t.gOkQ names g&&t.gv g == .builtin "sorted" && t.gOk names g'&&t.gv g' == .type "set" && wf t names vs e
  | .app o ap e p=>(ap.endLine==p.line)&&baseOk o&&wf t names vs o&&wf t names vs e
  | .intb e g _ _=>t.gOk names g&&t.gv g == .type "int" && wf t names vs e
  | .lset e g _ g' _ _ _=>t.gOkQ names g&&t.gv g == .builtin "len" && t.gOk names g'&&t.gv g' == .type "set" && wf t names vs e
  | .gint g i _=>t.gOk names g&&(match t.gv g with | .int j _=>j==i | _=>false)
  | .attr C o name _=>baseOk o&&t.attrs.contains (C,name)&&wf t names vs o
  | .meth C g o name ap args p=>(t.q&&(ap.endLine==p.line))&&baseOk o&&t.meths.contains (C,name,g)&&Nat.ble args.length 5&&wf t names vs o&&wfL t names vs args
  | .new C gi g _ args _=>t.gOkQ names g&&t.gv g == .ref C&&t.news.contains (C,gi)&&wfL t names vs args
  | .lm _ o ap args p=>(ap.endLine==p.line)&&baseOk o&&Nat.ble args.length 5&&wf t names vs o&&wfL t names vs args
  | .dct _=>true
  | .subd o i _=>wf t names vs o&&wf t names vs i
  | .comp _ elt x _ it ifs sc fr _=>(t.q&&wfI t names vs it)&&compChk t names vs sc x fr&&wf t sc.names (x::fr) elt&&wfL t sc.names (x::fr) ifs
noncomputable def wfL (t:Tb) (names:List (Str×NameKind)) (vs:List Nat):List PE→Bool
  | []=>true
  | e::r=>wf t names vs e&&wfL t names vs r
noncomputable def wfO (t:Tb) (names:List (Str×NameKind)) (vs:List Nat):Option PE→Bool
  | Option.none=>true
  | some e=>wf t names vs e
noncomputable def wfI (t:Tb) (names:List (Str×NameKind)) (vs:List Nat):IT→Bool
  | .of e=>t.q&&wf t names vs e
  | .range g _ e _=>t.gOkQ names g&&t.gv g == .type "range" && wf t names vs e
  | .range2 g _ a b _=>t.gOkQ names g&&t.gv g == .type "range" && wf t names vs a&&wf t names vs b
end
noncomputable def isComp:PE→Bool
  | .comp ..=>true
  | _=>false
mutual
noncomputable def wfS (t:Tb) (names:List (Str×NameKind)) (vs:List Nat):PS→Bool
  | .assign x _ e _=>(t.st&&vs.contains x&&!(t.cv==some x))&&wf t names vs e
  | .expr e _=>!isComp e&&wf t names vs e
  | .ite e b o _=>wf t names vs e&&wfSs t names vs b&&wfSs t names vs o
  | .loop x _ it b _=>(t.q&&t.st&&vs.contains x)&&wfI t names vs it&&wfSs t names vs b
  | .while e b _=>(t.q&&wf t names vs e)&&wfSs t names vs b
  | .ret e _=>wf t names vs e
  | .sattr C o name _ e _=>true&&t.sets.contains (C,name)&&wf t names vs o&&wf t names vs e
  | .ssub o i _ e _=>!isComp e&&wf t names vs o&&wf t names vs i&&wf t names vs e
  | .raise C g _ _ _ _ _=>t.gOkQ names g&&t.excs.contains (g,C)
  | .try b hs _=>t.q&&!hs.isEmpty&&wfSs { t with st:=false } names vs b&&wfHs t names vs hs
noncomputable def wfHs (t:Tb) (names:List (Str×NameKind)) (vs:List Nat):List HD→Bool
  | []=>true
  | .mk cs os g _ b _::r=>t.gOk names g&&t.subs.contains (g,cs,os)&&!b.isEmpty&&wfSs { t with q:=false,cv:=Option.none } names vs b&&wfHs t names vs r
  | .as cs os g _ x b _::r=>t.gOk names g&&t.subs.contains (g,cs,os)&&vs.contains x&&names.contains (t.N.nm x,.local)&&t.st&&!b.isEmpty&&wfSs { t with q:=false,cv:=some x } names vs b&&wfHs t names vs r
noncomputable def wfSs (t:Tb) (names:List (Str×NameKind)) (vs:List Nat):List PS→Bool
  | []=>true
  | s::r=>wfS t names vs s&&wfSs t names vs r
end
structure Nm (env:Env) (names:List (Str×NameKind)):Prop where
  glob:∀ n,(n,NameKind.globalImplicit)∈names→env.kindOf n=some .globalImplicit
  cell:∀ n,(n,NameKind.cell)∈names→env.kindOf n=some .cell
  loc:∀ n,(n,NameKind.local)∈names→env.kindOf n=some .local
theorem compChk_ok {t:Tb} {names:List (Str×NameKind)} {vs:List Nat} {sc:Scope} {x:Nat} {fr:List Nat} {env:Env} (h:compChk t names vs sc x fr=true) (hn:Nm env names):CompOk t.N.nm vs env sc x fr:=by
  unfold compChk at h
  simp only [Bool.and_eq_true,Bool.not_eq_true',decide_eq_true_eq,List.all_eq_true] at h
  obtain ⟨⟨⟨⟨⟨⟨h1,h2⟩,h3⟩,h4⟩,h5⟩,h6⟩,h7⟩:=h
  refine ⟨by simpa using h1,h2,by simpa using h3,fun i hi=>?_,fun y hy hf=>?_,fun y hy=>by simpa using h6 y hy,h7⟩
  · have:=h4 i hi
    exact ⟨by simpa using this.1.1,by simpa using this.1.2,hn.cell _ (by simpa using this.2)⟩
  · have:=h5 y hy
    rw [hf] at this
    simp at this
    obtain ⟨i,hi,e⟩:=this
    exact ⟨i,hi,e⟩
theorem nm_block {env:Env} {sc:Scope} {nm:Nat→Str} {vs:List Nat} {x:Nat} {fr:List Nat} (co:CompOk nm vs env sc x fr) (cl:List (Str×Addr)) (C:Addr):Nm (compEnvC sc cl C env) sc.names where
  glob:=fun n hm=>by
    show (relabel sc env).names.lookup n=_
    rw [relabel_lookup co.nodup hm]; rfl
  cell:=fun n hm=>absurd rfl (co.nocell _ hm)
  loc:=fun n hm=>by
    show (relabel sc env).names.lookup n=_
    rw [relabel_lookup co.nodup hm]; rfl
theorem embL_nil (N:Nms):embL N []=[]:=rfl
theorem embL_cons (N:Nms) (e:PE) (r:List PE):embL N (e::r)=emb N e::embL N r:=rfl
theorem emb_marks (N:Nms) (op:CmpOp) (e:PE):behindInMarks op (emb N e)=false:=by cases e <;> rfl
theorem emb_sub (N:Nms) (e:PE) (x y:Value):subscripted (emb N e) false x y=operate [x,y] (getItem x y):=by cases e <;> rfl
theorem emb_star (N:Nms) (e:PE) (rest:List Expr) (env:Env):starEach (emb N e::rest) env=(false,eval (emb N e) env)::starEach rest env:=by cases e <;> rfl
theorem emb_fold (N:Nms) (e:PE) (env:Env) (v:Value):foldedSetIterable (emb N e) env v=pure v:=by cases e <;> rfl
theorem embI_fold (N:Nms) (it:IT) (env:Env) (v:Value):foldedSetIterable (embI N it) env v=pure v:=by
  cases it with
  | of e=>exact emb_fold N e env v
  | _=>rfl
theorem emb_base (N:Nms) (e:PE) (a:Str) (env:Env) (x:Sem Value) (h:baseOk e=true):attributeBase (emb N e) a env x=x:=by
  cases e with
  | call g gp args p=>cases args <;> first | rfl | cases h
  | bi b m g gp args p=>cases args <;> first | rfl | cases h
  | new C gi g gp args p=>cases args <;> first | rfl | cases h
  | _=>rfl
theorem plain_star {env:Env} {pos:Pos}:∀ (N:Nms) (es:List PE),(backTo pos (starEach (embL N es) env)).any (·.1)=false
  | N,[]=>rfl
  | N,e::r=>by
    show (backTo pos (starEach (emb N e::embL N r) env)).any (·.1)=false
    rw [emb_star]
    exact plain_star (env:=env) (pos:=pos) N r
section
variable {c:Cx} {A:Around} {nm:Nat→Str} {vs:List Nat} {env:Env}
theorem units_ok {n:Nat} (hA:Room n A):A.units+64<cLine:=by have:=hA.2.2; unfold cLine; omega
theorem sndT_of {v:ETr} {e:Expr} (hv:SndV c A nm vs env (.of v) e) (he:∀ whole,isTrue e env whole=(do let v←whole; standAt e.pos; holding [v] (truthy v))):SndT c A nm vs env (.of v) e:=by
  intro ρ σ Φ h P s g Q hQ
  refine isTrue_plain ?_ (he _)
  refine hv ρ σ _ h P s g _ fun u d σ' s' hd st ok hr=>?_
  exact truthS_sound hd hr fun b hb=>hQ b σ' s' hb st ok
theorem L_bin {x y:VT} {l r:Expr} {op:Operator} {p:Pos} (hx:SndV c A nm vs env x l) (hy:SndV c A nm vs env y r) :
    SndV c A nm vs env (.of fun ρ σ Φ=>x.v ρ σ fun a σ₁=>y.v ρ σ₁ fun b σ₂=>binS op a b σ₂ Φ) (.BinOp l op r p):=by
  intro ρ σ Φ h P s g Q hQ
  refine wpAny_BinOp (R_two g (hx ρ σ _ h) (fun d σ' hd=>hy ρ σ' _ hd) fun v₁ v₂ d₁ d₂ σ' s' hb st g' r₁ r₂=>?_)
  exact binS_sound g' hb r₁ r₂ fun v d σ'' s'' a b e f=>hQ v d σ'' s'' a (st.trans b) e f
theorem L_cmp {x y:VT} {l r:Expr} {op:CmpOp} {p:Pos} (hu:A.units+64<cLine) (hm:behindInMarks op r=false) (hx:SndV c A nm vs env x l) (hy:SndV c A nm vs env y r) :
    SndV c A nm vs env (.of fun ρ σ Φ=>x.v ρ σ fun a σ₁=>y.v ρ σ₁ fun b σ₂=>cmpS op a b σ₂ Φ) (.Compare l [op] [r] p)∧
    SndT c A nm vs env (.of fun ρ σ Φ=>x.v ρ σ fun a σ₁=>y.v ρ σ₁ fun b σ₂=>cmpS op a b σ₂ Φ) (.Compare l [op] [r] p):=by
  constructor
  · intro ρ σ Φ h P s g Q hQ
    refine wpAny_Compare1 (R_two g (hx ρ σ _ h) (fun d σ' hd=>hy ρ σ' _ hd) fun v₁ v₂ d₁ d₂ σ' s' hb st g' r₁ r₂=>?_) hm
    exact cmpS_sound hu g' hb r₁ r₂ fun v d σ'' s'' a b e f=>hQ v d σ'' s'' a (st.trans b) e f
  · intro ρ σ Φ h P s g Q hQ
    refine wpAny_isTrue_Compare1 (R_two g (hx ρ σ _ h) (fun d σ' hd=>hy ρ σ' _ hd) fun v₁ v₂ d₁ d₂ σ' s' hb st g' r₁ r₂=>?_) hm
    exact cmpS_sound hu g' hb r₁ r₂ fun v d σ'' s'' a b e f=>truthS_sound a f fun t ht=>hQ t σ'' s'' ht (st.trans b) e
set_option tactic.hygienic true in
theorem L_cmp2 {x y z:VT} {l m r:Expr} {o₁ o₂:CmpOp} {p:Pos} (hu:A.units+64<cLine) (hm:behindInMarks o₂ r=false) (hx:SndV c A nm vs env x l) (hy:SndV c A nm vs env y m) (hz:SndV c A nm vs env z r) :
    SndV c A nm vs env (.of fun ρ σ Φ=>x.v ρ σ fun a σ₁=>y.v ρ σ₁ fun b σ₂=>cmpS o₁ a b σ₂ fun d σ₃=>truthS d σ₃ fun t σ₄=>(t=false→Φ (.bool false) σ₄)∧(t=true→z.v ρ σ₄ fun w σ₅=>cmpS o₂ b w σ₅ Φ)) (.Compare l [o₁,o₂] [m,r] p)∧
    SndT c A nm vs env (.of fun ρ σ Φ=>x.v ρ σ fun a σ₁=>y.v ρ σ₁ fun b σ₂=>cmpS o₁ a b σ₂ fun d σ₃=>truthS d σ₃ fun t σ₄=>(t=false→Φ (.bool false) σ₄)∧(t=true→z.v ρ σ₄ fun w σ₅=>cmpS o₂ b w σ₅ Φ)) (.Compare l [o₁,o₂] [m,r] p):=by
  constructor
  · intro ρ σ Φ h P s g Q hQ
    refine Compare_chain ?_ hm
    refine hx ρ σ _ h P s g _ fun v₁ d₁ σ₁ s₁ h₁ st₁ ok₁ r₁=>?_
    have g₁:=g.next st₁ ok₁
    refine chain_link (hy ρ σ₁ _ h₁ P s₁ g₁ _ fun v₂ d₂ σ₂ s₂ h₂ st₂ ok₂ r₂=>?_)
    have g₂:=g₁.next st₂ ok₂
    refine cmpS_sound hu g₂ h₂ (Rep.stay (st₂.stay g.wp) _ _ r₁) r₂ fun v₃ d₃ σ₃ s₃ h₃ st₃ ok₃ r₃=>?_
    have g₃:=g₂.next st₃ ok₃
    cases d₃ <;> simp only [truthS] at h₃
    rename_i t
    simp only [Rep] at r₃
    subst r₃
    refine wpAny_truthy_bool ?_
    cases t with
    | false=>simp only [Bool.false_eq_true,if_false]; exact hQ _ (.bool false) σ₃ s₃ (h₃.1 rfl) ((st₁.trans st₂).trans st₃) ok₃ rep_bool
    | true=>
      simp only [if_true]
      refine chain_last (hz ρ σ₃ _ (h₃.2 rfl) P s₃ g₃ _ fun v₄ d₄ σ₄ s₄ h₄ st₄ ok₄ r₄=>?_)
      exact cmpS_sound hu (g₃.next st₄ ok₄) h₄ (Rep.stay (st₄.stay g.wp) _ _ (Rep.stay (st₃.stay g.wp) _ _ r₂)) r₄ fun v d σ'' s'' a b e f=>hQ v d σ'' s'' a ((((st₁.trans st₂).trans st₃).trans st₄).trans b) e f
  · intro ρ σ Φ h P s g Q hQ
    refine isTrue_chain ?_ hm
    refine hx ρ σ _ h P s g _ fun v₁ d₁ σ₁ s₁ h₁ st₁ ok₁ r₁=>?_
    have g₁:=g.next st₁ ok₁
    refine test_link (hy ρ σ₁ _ h₁ P s₁ g₁ _ fun v₂ d₂ σ₂ s₂ h₂ st₂ ok₂ r₂=>?_)
    have g₂:=g₁.next st₂ ok₂
    refine cmpS_sound hu g₂ h₂ (Rep.stay (st₂.stay g.wp) _ _ r₁) r₂ fun v₃ d₃ σ₃ s₃ h₃ st₃ ok₃ r₃=>?_
    have g₃:=g₂.next st₃ ok₃
    cases d₃ <;> simp only [truthS] at h₃
    rename_i t
    simp only [Rep] at r₃
    subst r₃
    refine wpAny_truthy_bool ?_
    cases t with
    | false=>simp only [Bool.false_eq_true,if_false]; exact hQ false σ₃ s₃ (h₃.1 rfl) ((st₁.trans st₂).trans st₃) ok₃
    | true=>
      simp only [if_true]
      refine test_last (hz ρ σ₃ _ (h₃.2 rfl) P s₃ g₃ _ fun v₄ d₄ σ₄ s₄ h₄ st₄ ok₄ r₄=>?_)
      exact cmpS_sound hu (g₃.next st₄ ok₄) h₄ (Rep.stay (st₄.stay g.wp) _ _ (Rep.stay (st₃.stay g.wp) _ _ r₂)) r₄ fun v d σ'' s'' a b e f=>truthS_sound a f fun t ht=>hQ t σ'' s'' ht ((((st₁.trans st₂).trans st₃).trans st₄).trans b) e
set_option tactic.hygienic true in
theorem L_neg {x:VT} {e:Expr} {p:Pos} (hx:SndV c A nm vs env x e):SndV c A nm vs env (.of fun ρ σ Φ=>x.v ρ σ fun d σ'=>match d with | .int i=>Φ (.int (-i)) σ' | _=>False) (.UnaryOp .USub e p):=by
  intro ρ σ Φ h P s g Q hQ
  refine UnaryOp_ (hx ρ σ _ h P s g _ fun v d σ' s' hd st ok hr=>?_)
  cases d <;> simp only at hd
  simp only [Rep] at hr
  obtain ⟨t,rfl⟩:=hr
  exact PyProof.Rows.neg_int (fin_keeps (g.next st ok) (fun v d σ'' s'' a b e f=>hQ v d σ'' s'' a (st.trans b) e f) hd (keeps_toks s' _) rep_int)
theorem L_not {x:VT} {e:Expr} {p:Pos} (hx:SndV c A nm vs env x e) (ht:SndT c A nm vs env x e) :
    SndV c A nm vs env ⟨fun ρ σ Φ=>x.v ρ σ fun d σ'=>truthS d σ' fun b σ''=>Φ (.bool (!b)) σ'',fun ρ σ Φ=>x.t ρ σ fun b σ'=>Φ (!b) σ'⟩ (.UnaryOp .Not e p)∧
    SndT c A nm vs env ⟨fun ρ σ Φ=>x.v ρ σ fun d σ'=>truthS d σ' fun b σ''=>Φ (.bool (!b)) σ'',fun ρ σ Φ=>x.t ρ σ fun b σ'=>Φ (!b) σ'⟩ (.UnaryOp .Not e p):=by
  constructor
  · intro ρ σ Φ h P s g Q hQ
    refine UnaryOp_ (hx ρ σ _ h P s g _ fun v d σ' s' hd st ok hr=>not_of ?_)
    exact truthS_sound hd hr fun b hb=>hQ _ (.bool (!b)) σ' s' hb st ok rep_bool
  · intro ρ σ Φ h P s g Q hQ
    exact isTrue_not (ht ρ σ _ h P s g _ fun b σ' s' hb st ok=>hQ (!b) σ' s' hb st ok)
set_option tactic.hygienic true in
theorem L_bopT {op:BoolOp} {p:Pos} {whole:Sem Value} {xs:List VT} {es:List Expr} (h:SndL c A nm vs env xs es):∀ ρ σ Φ,bopT op xs ρ σ Φ→WPb c A nm vs env ρ σ (isTrue (.BoolOp op es p) env whole) Φ:=by
  induction h with
  | nil=>
    intro ρ σ Φ h P s g Q hQ
    cases op
    · exact isTrue_and_nil (hQ true σ s h (Step.refl _ _ _ _) g.st)
    · exact isTrue_or_nil (hQ false σ s h (Step.refl _ _ _ _) g.st)
  | cons hv ht _ ih=>
    intro ρ σ Φ h P s g Q hQ
    cases op
    · refine isTrue_and (ht ρ σ _ h P s g _ fun b σ₁ s₁ hb st₁ ok₁=>?_)
      cases b with
      | false=>simp only [Bool.false_eq_true,if_false]; exact hQ false σ₁ s₁ (hb.1 rfl) st₁ ok₁
      | true=>simp only [if_true]; exact ih ρ σ₁ Φ (hb.2 rfl) P s₁ (g.next st₁ ok₁) Q fun b' σ₂ s₂ h₂ st₂ ok₂=>hQ b' σ₂ s₂ h₂ (st₁.trans st₂) ok₂
    · refine isTrue_or (ht ρ σ _ h P s g _ fun b σ₁ s₁ hb st₁ ok₁=>?_)
      cases b with
      | true=>simp only [if_true]; exact hQ true σ₁ s₁ (hb.1 rfl) st₁ ok₁
      | false=>simp only [Bool.false_eq_true,if_false]; exact ih ρ σ₁ Φ (hb.2 rfl) P s₁ (g.next st₁ ok₁) Q fun b' σ₂ s₂ h₂ st₂ ok₂=>hQ b' σ₂ s₂ h₂ (st₁.trans st₂) ok₂
set_option tactic.hygienic true in
theorem L_bopV {op:BoolOp} {p:Pos} {xs:List VT} {es:List Expr} (h:SndL c A nm vs env xs es):∀ ρ σ Φ,bopV op xs ρ σ Φ→WPv c A nm vs env ρ σ (eval (.BoolOp op es p) env) Φ:=by
  induction h with
  | nil=>intro ρ σ Φ h; exact h.elim
  | cons hv ht tl ih=>
    intro ρ σ Φ h P s g Q hQ
    cases tl with
    | nil=>exact BoolOp_one (hv ρ σ _ h P s g _ hQ)
    | cons hv' ht' tl'=>
      cases op
      · refine BoolOp_and (hv ρ σ _ h P s g _ fun v d σ₁ s₁ hd st₁ ok₁ hr=>truthS_sound hd hr fun b hb=>?_)
        cases b with
        | false=>simp only [Bool.false_eq_true,if_false]; exact hQ v d σ₁ s₁ (hb.1 rfl) st₁ ok₁ hr
        | true=>simp only [if_true]; exact ih ρ σ₁ Φ (hb.2 rfl) P s₁ (g.next st₁ ok₁) Q fun v' d' σ₂ s₂ h₂ st₂ ok₂ r₂=>hQ v' d' σ₂ s₂ h₂ (st₁.trans st₂) ok₂ r₂
      · refine BoolOp_or (hv ρ σ _ h P s g _ fun v d σ₁ s₁ hd st₁ ok₁ hr=>truthS_sound hd hr fun b hb=>?_)
        cases b with
        | true=>simp only [if_true]; exact hQ v d σ₁ s₁ (hb.1 rfl) st₁ ok₁ hr
        | false=>simp only [Bool.false_eq_true,if_false]; exact ih ρ σ₁ Φ (hb.2 rfl) P s₁ (g.next st₁ ok₁) Q fun v' d' σ₂ s₂ h₂ st₂ ok₂ r₂=>hQ v' d' σ₂ s₂ h₂ (st₁.trans st₂) ok₂ r₂
set_option tactic.hygienic true in
theorem L_args {N:Nms} {pos:Pos}:∀ (es:List PE) (xs:List VT),SndL c A nm vs env xs (embL N es)→∀ ρ σ Φ,argsV xs ρ σ Φ→WPl c A nm vs env ρ σ (spliced (backTo pos (starEach (embL N es) env))) Φ
  | [],xs,h,ρ,σ,Φ,ha=>by
    simp only [embL_nil,embL_cons] at h ⊢
    cases h
    intro P s g Q hQ
    exact args_nil (hQ [] [] σ s ha (Step.refl _ _ _ _) g.st .nil)
  | e :: r,xs,h,ρ,σ,Φ,ha=>by
    simp only [embL_nil,embL_cons] at h ⊢
    cases h with
    | cons hv _ tl=>
      intro P s g Q hQ
      simp only [argsV] at ha
      refine args_cons (hv ρ σ _ ha P s g _ fun v d σ₁ s₁ hd st₁ ok₁ r₁=>?_) (emb_star N e _ env)
      exact L_args r _ tl ρ σ₁ _ hd P s₁ (g.next st₁ ok₁) _ fun us ds σ₂ s₂ h₂ st₂ ok₂ r₂=>hQ (v::us) (d::ds) σ₂ s₂ h₂ (st₁.trans st₂) ok₂ (.cons (Rep.stay (st₂.stay g.wp) _ _ r₁) r₂)
theorem L_sub {x y:VT} {o i:Expr} {p:Pos} (hi:∀ a b,subscripted i false a b=operate [a,b] (getItem a b)) (hx:SndV c A nm vs env x o) (hy:SndV c A nm vs env y i) :
    SndV c A nm vs env (.of fun ρ σ Φ=>x.v ρ σ fun a σ₁=>y.v ρ σ₁ fun b σ₂=>subS a b σ₂ Φ) (.Subscript o i p):=by
  intro ρ σ Φ h P s g Q hQ
  refine Subscript_ (R_two g (hx ρ σ _ h) (fun d σ' hd=>hy ρ σ' _ hd) fun v₁ v₂ d₁ d₂ σ' s' hb st g' r₁ r₂=>?_)
  exact subS_sound hi g' hb r₁ r₂ fun v d σ'' s'' a b e f=>hQ v d σ'' s'' a (st.trans b) e f
set_option tactic.hygienic true in
theorem L_list {N:Nms} {m:Bool} {es:List PE} {xs:List VT} {p:Pos} (h:SndL c A nm vs env xs (embL N es)):SndV c A nm vs env (.of fun ρ σ Φ=>argsV xs ρ σ fun ds σ'=>Nat.ble ds.length small=true∧mkS m ds σ' Φ) (.List (embL N es) p):=by
  intro ρ σ Φ ha P s g Q hQ
  refine List_ (L_args es xs h ρ σ _ ha P s g _ fun us ds σ₁ s₁ hd st₁ ok₁ r₁=>?_)
  have g₁:=g.next st₁ ok₁
  have el:=r₁.length
  have hl:=Nat.le_of_ble_eq_true hd.1
  exact wpAny_newObj_type (fin_list g₁ hd.2 (fun v d σ'' s'' a b e f=>hQ v d σ'' s'' a (st₁.trans b) e f) (keeps_push' s₁ _) (get?_size_none _) (us:=us) ⟨0,Heap.get?_push_size _ rfl⟩ r₁) (by show us.toArray.size≤sizeLine; rw [List.size_toArray]; have:=sizeLine_small; omega)
set_option tactic.hygienic true in
theorem L_tup {N:Nms} {es:List PE} {xs:List VT} {k:Nat} {p:Pos} (h:SndL c A nm vs env xs (embL N es)):SndV c A nm vs env (.of fun ρ σ Φ=>argsV xs ρ σ fun ds σ'=>Nat.ble ds.length small=true∧Φ (.tuple ds) σ') (.Tuple (embL N es) k p):=by
  intro ρ σ Φ ha P s g Q hQ
  refine Tuple_ (L_args es xs h ρ σ _ ha P s g _ fun us ds σ₁ s₁ hd st₁ ok₁ r₁=>?_)
  have g₁:=g.next st₁ ok₁
  have el:=r₁.length
  have hl:=Nat.le_of_ble_eq_true hd.1
  exact wpAny_newObj_type (fin_tuple g₁ hd.2 (fun v d σ'' s'' a b e f=>hQ v d σ'' s'' a (st₁.trans b) e f) (keeps_push' s₁ _) (get?_size_none _) (us:=us) ⟨_,Heap.get?_push_size _ rfl,rfl,0,rfl⟩ r₁) (by show us.toArray.size≤sizeLine; rw [List.size_toArray]; have:=sizeLine_small; omega)
theorem call_name {N:Nms} {x:Str} {gp p:Pos} {fv:Value} {es:List PE} {ρ:PEnv} {σ:Store} {P:Addr→Prop} {s:Shared} {Q:Value→Shared→Prop} {E:Value→Shared→Prop} (eo:EnvOk nm vs env) (hx:env.kindOf x=some .globalImplicit) (hd:(x==("__debug__" : Str))=false) (hv:c.glob x=some fv)
    (g:Good c nm vs env ρ σ P s) (h:wpAny c.M A (callWith p fv [] (backTo p (starEach (embL N es) env)) []) Q E s):wpAny c.M A (eval (.Call (.Name x gp) (embL N es) [] p) env) Q E s:=by
  rw [arm_eval_Call_Name']
  exact wpAny_bind (R_glob eo hx hd hv g h)
theorem call_on {n:Nat} {f:Addr} {S:Spec} {ρ:PEnv} {σ σ₁:Store} {P:Addr→Prop} {s s₁:Shared} {ds:List D} {us:List Value} {Q:Value→Shared→Prop} {Φ:D→Store→Prop} (hA:Room n A) (hF:A.frames=some c.l) (V:Valid c.toBx n f S) (g₁:Good c nm vs env ρ σ₁ P s₁)
    (hS:S ds σ₁ Φ c.X) (r₁:RepL (nd σ₁ P) s₁.heap ds us) (st₁:Step c.W noF σ σ₁ s s₁) (hQ:∀ v d σ' s',Φ d σ'→Step c.W noF σ σ' s s'→StoreOk σ' P s'.heap→Rep (nd σ' P) s'.heap d v→Q v s') :
    codeAny c.M A (.call (.ref f) ⟨us,[]⟩) (fun r s'=>match r with | .ok (.ret v)=>Q v s' | .ok _=>False | .error e=>c.E e s') s₁:=
  V.call A hA c.l hF ds σ₁ Φ c.X hS P s₁ us g₁.base g₁.st (fun a ha=>(g₁.own a ha).1) g₁.prot g₁.wp g₁.wb g₁.fr r₁ Q c.E (fun v d σ'' s'' a b e f=>hQ v d σ'' s'' a (st₁.trans b) e f)
    fun e C σ' s' hX st ok fr fl=>c.exc e C σ' s' hX (g₁.since.trans (st.weak fun _ h=>h.elim)) (ok.weak g₁.p0) fr (fl.elder g₁.since.alive)
set_option tactic.hygienic true in
theorem L_call {N:Nms} {x:Str} {gp p:Pos} {f:Addr} {S:Spec} {n:Nat} {es:List PE} {xs:List VT} (hA:Room n A) (hF:A.frames=some c.l) (eo:EnvOk nm vs env) (hx:env.kindOf x=some .globalImplicit) (hd:(x==("__debug__" : Str))=false) (hv:c.glob x=some (.ref f)) (V:Valid c.toBx n f S)
    (hne:es≠[]) (h:SndL c A nm vs env xs (embL N es)):SndV c A nm vs env (.of fun ρ σ Φ=>argsV xs ρ σ fun ds σ'=>S ds σ' Φ c.X) (.Call (.Name x gp) (embL N es) [] p):=by
  intro ρ σ Φ ha P s g Q hQ
  refine call_name eo hx hd hv g ?_
  obtain ⟨o,fd,ho,hdat⟩:=V.fn
  cases es with
  | nil=>exact absurd rfl hne
  | cons e r=>
    have h0:=L_args (pos:=p) (e::r) xs h ρ σ _ ha P s g
    simp only [embL_nil,embL_cons] at h0 ⊢
    refine callWith_def hdat (h0 _ fun us ds σ₁ s₁ hS st₁ ok₁ r₁=>?_) (emb_star N e _ env)
    have g₁:=g.next st₁ ok₁
    exact ⟨g₁.base f o ho,wpAny_call (call_on hA hF V g₁ hS r₁ st₁ hQ)⟩
set_option tactic.hygienic true in
theorem L_bi {N:Nms} {x:Str} {gp p:Pos} {b:BI} {m:Bool} {es:List PE} {xs:List VT} (hh:A.handled=none) (eo:EnvOk nm vs env) (hx:env.kindOf x=some .globalImplicit) (hd:(x==("__debug__" : Str))=false) (hv:c.glob x=some b.val)
    (hne:es≠[]) (h:SndL c A nm vs env xs (embL N es)):SndV c A nm vs env (.of fun ρ σ Φ=>argsV xs ρ σ fun ds σ'=>biS b m ds σ' Φ) (.Call (.Name x gp) (embL N es) [] p):=by
  intro ρ σ Φ ha P s g Q hQ
  refine call_name eo hx hd hv g ?_
  cases es with
  | nil=>exact absurd rfl hne
  | cons e r=>
    have h0:=L_args (pos:=p) (e::r) xs h ρ σ _ ha P s g
    have pl:=plain_star (env:=env) (pos:=p) N r
    simp only [embL_nil,embL_cons] at h0 ⊢
    have fin:wpAny c.M A (spliced (backTo p (starEach (emb N e::embL N r) env))) (fun us s₁=>wpAny c.M A (PySem.call b.val us) Q c.E s₁) c.E s:=h0 _ fun us ds σ₁ s₁ hS st₁ ok₁ r₁=>
      biS_sound hh (g.next st₁ ok₁) hS r₁ fun v d σ'' s'' a b e f=>hQ v d σ'' s'' a (st₁.trans b) e f
    cases b with
    | list | listD | tupleA=>exact PyProof.Rows.callWith_type1 fin (emb_star N e _ env) pl
    | _=>exact callWith_builtin1 fin (emb_star N e _ env) pl
set_option tactic.hygienic true in
theorem L_isi {N:Nms} {x y:Str} {gp tp p:Pos} {ty:TY} {e:PE} {v:VT} (eo:EnvOk nm vs env) (hx:env.kindOf x=some .globalImplicit) (hd:(x==("__debug__" : Str))=false) (hv:c.glob x=some (.builtin "isinstance"))
    (hy:env.kindOf y=some .globalImplicit) (hd':(y==("__debug__" : Str))=false) (hv':c.glob y=some (.type ty.name)) (h:SndV c A nm vs env v (emb N e)) :
    SndV c A nm vs env (.of fun ρ σ Φ=>v.v ρ σ fun d σ'=>∃ t,tyS ty d σ'=some t∧Φ (.bool t) σ') (.Call (.Name x gp) [emb N e,.Name y tp] [] p):=by
  intro ρ σ Φ ha P s g Q hQ
  rw [arm_eval_Call_Name']
  refine wpAny_bind (R_glob eo hx hd hv g ?_)
  refine callWith_builtin1 ?_ (emb_star N e _ env) rfl
  refine args_cons (h ρ σ _ ha P s g _ fun u d σ₁ s₁ hS st₁ ok₁ r₁=>?_) (emb_star N e _ env)
  have g₁:=g.next st₁ ok₁
  refine args_cons (R_glob eo hy hd' hv' g₁ (args_nil ?_))
  obtain ⟨t,e1,h1⟩:=hS
  exact tyS_sound g₁ e1 h1 r₁ fun v d σ'' s'' a b e f=>hQ v d σ'' s'' a (st₁.trans b) e f
set_option tactic.hygienic true in
theorem L_mmd {N:Nms} {mx:Bool} {x:Str} {gp cp kp p:Pos} {e:PE} {v:VT} (hh:A.handled=none) (eo:EnvOk nm vs env) (hx:env.kindOf x=some .globalImplicit) (hd:(x==("__debug__" : Str))=false) (hv:c.glob x=some (.builtin (if mx then "max" else "min")))
    (h:SndV c A nm vs env v (emb N e)):SndV c A nm vs env (.of fun ρ σ Φ=>v.v ρ σ fun d σ'=>mmS mx d σ' Φ) (.Call (.Name x gp) [emb N e] [⟨some (Str.ofString "default"),.Constant .none 0 cp,kp⟩] p):=by
  intro ρ σ Φ ha P s g Q hQ
  rw [arm_eval_Call_Name']
  refine wpAny_bind (R_glob eo hx hd hv g ?_)
  have es:=emb_star N e [] env
  refine callWith_kw (kws:=[⟨some (Str.ofString "default"),.Constant .none 0 cp,kp⟩]) ?_ (by rw [es]; rfl) (by rw [es]; rfl)
  refine args_cons (h ρ σ _ ha P s g _ fun u d σ₁ s₁ hS st₁ ok₁ r₁=>?_) es
  have g₁:=g.next st₁ ok₁
  refine args_nil (evalAll_cons ?_)
  refine wpAny_bind (wpAny_Constant_none (wpAny_bind (wpAny_standAt (wpAny_pure (evalAll_nil ?_)))))
  exact mm_sound hh g₁ hS r₁ fun v d σ'' s'' a b e f=>hQ v d σ'' s'' a (st₁.trans b) e f
set_option tactic.hygienic true in
theorem L_sset {N:Nms} {x y:Str} {gp gp' p' p:Pos} {e:PE} {v:VT} (hh:A.handled=none) (eo:EnvOk nm vs env) (hx:env.kindOf x=some .globalImplicit) (hd:(x==("__debug__" : Str))=false) (hv:c.glob x=some (.builtin "sorted"))
    (hy:env.kindOf y=some .globalImplicit) (hd':(y==("__debug__" : Str))=false) (hv':c.glob y=some (.type "set")) (h:SndV c A nm vs env v (emb N e)) :
    SndV c A nm vs env (.of fun ρ σ Φ=>v.v ρ σ fun d σ'=>ssetS d σ' Φ) (.Call (.Name x gp) [.Call (.Name y gp') [emb N e] [] p'] [] p):=by
  intro ρ σ Φ ha P s g Q hQ
  rw [arm_eval_Call_Name']
  refine wpAny_bind (R_glob eo hx hd hv g ?_)
  refine callWith_builtin1 ?_ rfl rfl
  refine args_cons ?_ rfl
  rw [arm_eval_Call_Name']
  refine wpAny_bind (R_glob eo hy hd' hv' g ?_)
  refine PyProof.Rows.callWith_type1 ?_ (emb_star N e _ env) rfl
  refine args_cons (h ρ σ _ ha P s g _ fun u d σ₁ s₁ hS st₁ ok₁ r₁=>?_) (emb_star N e _ env)
  have g₁:=g.next st₁ ok₁
  refine args_nil ?_
  refine wpAny_mono (sset_sound hh g₁ hS r₁ fun v d σ'' s'' a b e f=>hQ v d σ'' s'' a (st₁.trans b) e f) (fun u s' h=>args_nil h) fun _ _ e=>e
set_option tactic.hygienic true in
theorem L_app {N:Nms} {ap p:Pos} {o e:PE} {x y:VT} (hl:(ap.endLine==p.line)=true) (hb:baseOk o=true) (hx:SndV c A nm vs env x (emb N o)) (hy:SndV c A nm vs env y (emb N e)) :
    SndV c A nm vs env (.of fun ρ σ Φ=>x.v ρ σ fun a σ₁=>isML a σ₁∧y.v ρ σ₁ fun b σ₂=>appS a b σ₂ Φ) (.Call (.Attribute (emb N o) (Str.ofString "append") ap) [emb N e] [] p):=by
  intro ρ σ Φ ha P s g Q hQ
  rw [arm_eval_Call,emb_base N o _ _ _ hb]
  refine wpAny_bind (hx ρ σ _ ha P s g _ fun v₁ d₁ σ₁ s₁ h₁ st₁ ok₁ r₁=>?_)
  have g₁:=g.next st₁ ok₁
  refine wpAny_bind (wpAny_standAt ?_)
  obtain ⟨hm,h₁⟩:=h₁
  have es:=emb_star N e [] env
  unfold isML at hm
  split at hm
  · rename_i a
    obtain ⟨xs,hm⟩:=hm
    have r₁':=r₁
    simp only [Rep] at r₁
    subst r₁
    obtain ⟨us,⟨n,ho⟩,_⟩:=g₁.st.rep a _ hm
    have hform:methodCallForm (([emb N e]:List Expr).length+([]:List Keyword).length) (backTo p (starEach [emb N e] env)) (backToKw p (keywordEach [] env))=true:=by rw [es]; rfl
    have hpos:methodCallPos true (emb N o) env ap p=pure p:=by unfold methodCallPos; simp [hl]
    unfold methodCall
    rw [hform]
    refine wpAny_bind (wpAny_holding (Calls.getMethod_list_append ho rfl rfl ?_))
    refine wpAny_bind (wpAny_of_eq hpos ?_)
    rw [show backTo p (starEach [emb N e] env)=[(false,eval (emb N e) env)] from by rw [es]; rfl]
    refine Calls.callWith_builtin rfl (Calls.evalArgs_plain (Calls.spliced_cons ?_))
    refine hy ρ σ₁ _ h₁ P s₁ g₁ _ fun v₂ d₂ σ₂ s₂ h₂ st₂ ok₂ r₂=>?_
    have g₂:=g₁.next st₂ ok₂
    refine Calls.spliced_nil ?_
    exact app_sound g₂ h₂ (Rep.stay (st₂.stay g.wp) _ _ r₁') r₂ fun v d σ'' s'' a b e f=>hQ v d σ'' s'' a ((st₁.trans st₂).trans b) e f
  · exact hm.elim
noncomputable def SndO (c:Cx) (A:Around) (nm:Nat→Str) (vs:List Nat) (env:Env) (tr:PEnv→Store→(Option D→Store→Prop)→Prop) (e:Option Expr):Prop:=
  ∀ ρ σ Φ,tr ρ σ Φ→∀ P s,Good c nm vs env ρ σ P s→∀ (Q:Value→Shared→Prop),
    (∀ v o σ' s',Φ o σ'→Step c.W noF σ σ' s s'→StoreOk σ' P s'.heap→((o=Option.none∧v = .none)∨∃ d,o=some d∧Rep (nd σ' P) s'.heap d v)→Q v s')→wpAny c.M A (evalPart e env) Q c.E s
theorem part_stay {σ σ':Store} {P:Addr→Prop} {s s':Shared} {o:Option D} {v:Value} (hw:∀ a,c.W a→P a) (st:Step c.W noF σ σ' s s') (h:(o=Option.none∧v = .none)∨∃ d,o=some d∧Rep (nd σ P) s.heap d v):(o=Option.none∧v = .none)∨∃ d,o=some d∧Rep (nd σ' P) s'.heap d v:=
  h.imp id fun ⟨d,a,b⟩=>⟨d,a,Rep.stay (st.stay hw) _ _ b⟩
set_option tactic.hygienic true in
theorem L_slc {x:VT} {tl th:PEnv→Store→(Option D→Store→Prop)→Prop} {o:Expr} {lo hi:Option Expr} {m:Bool} {sp p:Pos} (hx:SndV c A nm vs env x o) (hl:SndO c A nm vs env tl lo) (hh:SndO c A nm vs env th hi) :
    SndV c A nm vs env (.of fun ρ σ Φ=>x.v ρ σ fun a σ₁=>tl ρ σ₁ fun l σ₂=>th ρ σ₂ fun h σ₃=>slcS m a l h σ₃ Φ) (.Subscript o (.Slice lo hi Option.none sp) p):=by
  intro ρ σ Φ h P s g Q hQ
  refine Subscript_ (hx ρ σ _ h P s g _ fun v₁ d₁ σ₁ s₁ h₁ st₁ ok₁ r₁=>?_)
  have g₁:=g.next st₁ ok₁
  refine wpAny_Slice (hl ρ σ₁ _ h₁ P s₁ g₁ _ fun v₂ o₂ σ₂ s₂ h₂ st₂ ok₂ r₂=>?_)
  have g₂:=g₁.next st₂ ok₂
  refine hh ρ σ₂ _ h₂ P s₂ g₂ _ fun v₃ o₃ σ₃ s₃ h₃ st₃ ok₃ r₃=>?_
  have g₃:=g₂.next st₃ ok₃
  rw [evalPart_none]
  refine wpAny_pure ?_
  have kp:=keeps_push' s₃ ({ cls := .type "slice",data := .fields #[v₂,v₃,.none] }:Obj)
  have st₄:Step c.W noF σ₃ σ₃ s₃ _:=Step.of_keeps kp
  have g₄:=g₃.next st₄ (g₃.st.keeps (keeps_heap kp))
  refine slcS_sound g₄ h₃ (Rep.stay (st₄.stay g.wp) _ _ (Rep.stay (st₃.stay g.wp) _ _ (Rep.stay (st₂.stay g.wp) _ _ r₁))) (part_stay g.wp st₄ (part_stay g.wp st₃ r₂)) (part_stay g.wp st₄ r₃) ⟨_,Heap.get?_push_size _ rfl,rfl,rfl⟩ fun v d σ'' s'' a b e f=>hQ v d σ'' s'' a ((((st₁.trans st₂).trans st₃).trans st₄).trans b) e f
set_option tactic.hygienic true in
theorem L_range {N:Nms} {x:Str} {gp p:Pos} {e:PE} {v:VT} (hh:A.handled=none) (eo:EnvOk nm vs env) (hx:env.kindOf x=some .globalImplicit) (hd:(x==("__debug__" : Str))=false) (hv:c.glob x=some (.type "range")) (h:SndV c A nm vs env v (emb N e)) :
    SndI c A nm vs env (fun ρ σ Φ=>v.v ρ σ fun d σ'=>match d with | .int n=>n≤small ∧ -small≤n∧Φ .none (rangeD n) σ' | _=>False) (.Call (.Name x gp) [emb N e] [] p):=by
  intro ρ σ Φ ha P s g Q hQ
  rw [arm_eval_Call_Name']
  refine wpAny_bind (R_glob eo hx hd hv g ?_)
  refine PyProof.Rows.callWith_type1 ?_ (emb_star N e _ env) rfl
  refine args_cons (h ρ σ _ ha P s g _ fun u d σ₁ s₁ hS st₁ ok₁ r₁=>?_) (emb_star N e _ env)
  have g₁:=g.next st₁ ok₁
  cases d <;> simp only at hS
  rename_i n
  simp only [Rep] at r₁
  obtain ⟨t,rfl⟩:=r₁
  refine args_nil (call_range_1 ?_)
  have kp:=keeps_push s₁ ({ cls := .type "range",data := .fields #[.int 0 s₁.toks,.int n t,.int 1 (s₁.toks+1)] }:Obj) (s₁.toks+1+1)
  exact hQ _ _ _ σ₁ _ hS.2.2 (st₁.trans (Step.of_keeps kp)) (g₁.st.keeps (keeps_heap kp)) (itv_range hh (IsRange.new _ _ _ _ _ _ _) hS.1 hS.2.1)
theorem L_of {v:VT} {e:Expr} (hh:A.handled=none) (h:SndV c A nm vs env v e):SndI c A nm vs env (fun ρ σ Φ=>v.v ρ σ fun d σ'=>∃ ds,asL σ' d=some ds∧Φ d ds σ') e:=by
  intro ρ σ Φ ha P s g Q hQ
  refine h ρ σ _ ha P s g _ fun u d σ₁ s₁ hS st₁ ok₁ r₁=>?_
  obtain ⟨ds,e1,h1⟩:=hS
  exact hQ u d ds σ₁ s₁ h1 st₁ ok₁ (itv_seq hh ok₁ r₁ e1)
end
end Mine
end
section
open PySem PySem.W PyProof.Rows
set_option Elab.async false
set_option linter.unusedVariables false
namespace Mine
section
variable {c:Cx} {A:Around} {nm:Nat→Str} {vs:List Nat} {env:Env}
theorem Good.big {ρ σ P s} (g:Good c nm vs env ρ σ P s):sysModules<s.heap.objs.size:=by
  obtain ⟨o,es,ep,ho,_⟩:=c.hg
  have:=Heap.lt_size (g.base _ _ ho)
  have h3:mainGlobals=3:=rfl
  have h1:sysModules=1:=rfl
  rw [h3] at this
  rw [h1]
  exact Nat.lt_trans (by decide) this
theorem L_gint {x:Str} {gp:Pos} {i:Int} {t:Tok} (eo:EnvOk nm vs env) (hx:env.kindOf x=some .globalImplicit) (hd:(x==("__debug__" : Str))=false) (hv:c.glob x=some (.int i t)) :
    SndV c A nm vs env (.of fun _ σ Φ=>Φ (.int i) σ) (.Name x gp):=by
  intro ρ σ Φ ha P s g Q hQ
  exact R_glob eo hx hd hv g (fin_keeps g hQ ha (keeps_refl s) rep_int)
set_option tactic.hygienic true in
theorem L_attr {N:Nms} {C:Nat} {name:Str} {p:Pos} {o:PE} {x:VT} (hb:baseOk o=true) (ho:AttrOk c.K C name) (hx:SndV c A nm vs env x (emb N o)) :
    SndV c A nm vs env (.of fun ρ σ Φ=>x.v ρ σ fun d σ'=>attrS C name d σ' Φ) (.Attribute (emb N o) name p):=by
  intro ρ σ Φ ha P s g Q hQ
  rw [arm_eval_Attribute,emb_base N o _ _ _ hb]
  refine wpAny_bind (hx ρ σ _ ha P s g _ fun v d σ₁ s₁ h₁ st₁ ok₁ r₁=>?_)
  have g₁:=g.next st₁ ok₁
  refine wpAny_bind (wpAny_standAt ?_)
  obtain ⟨a,dx,fs,y,rfl,hm,hg,h⟩:=h₁
  simp only [Rep] at r₁
  subst r₁
  refine wpAny_bind (wpAny_holding (attr_sound g₁ ho hm hg h fun v d σ'' s'' a b e f=>?_))
  exact wpAny_bind (wpAny_letTemporaryGo (wpAny_pure (hQ v d σ'' s'' a (st₁.trans b) e f)))
theorem form_ok {N:Nms} {p:Pos} {args:List PE} (hn:args.length≤5):methodCallForm ((embL N args).length+([]:List Keyword).length) (backTo p (starEach (embL N args) env)) (backToKw p (keywordEach [] env))=true:=by
  have h1:=plain_star (env:=env) (pos:=p) N args
  have hl:∀ l:List PE,(embL N l).length=l.length:=fun l=>by
    induction l with
    | nil=>rfl
    | cons e r ih=>simp [embL,ih]
  unfold methodCallForm
  have h2:(backTo p (starEach (embL N args) env)).all (fun x=>!x.1)=true:=by
    rw [List.all_eq_true]
    intro x hx
    rw [List.any_eq_false] at h1
    simpa using h1 x hx
  rw [h2,hl]
  show (true&&true&&decide (args.length+0+0<30))=true
  simp; omega
set_option tactic.hygienic true in
theorem L_meth {N:Nms} {C n:Nat} {name:Str} {ap p:Pos} {o:PE} {args:List PE} {x:VT} {xs:List VT} {f:Addr} {S:Spec} (hA:Room n A) (hF:A.frames=some c.l) (hl:(ap.endLine==p.line)=true) (hb:baseOk o=true) (hn:args.length≤5) (hm:MethOk c.K C name f) (V:Valid c.toBx n f S)
    (hx:SndV c A nm vs env x (emb N o)) (hy:SndL c A nm vs env xs (embL N args)) :
    SndV c A nm vs env (.of fun ρ σ Φ=>x.v ρ σ fun d σ₁=>instS C name d σ₁∧argsV xs ρ σ₁ fun ds σ₂=>S (d::ds) σ₂ Φ c.X) (.Call (.Attribute (emb N o) name ap) (embL N args) [] p):=by
  intro ρ σ Φ ha P s g Q hQ
  rw [arm_eval_Call,emb_base N o _ _ _ hb]
  refine wpAny_bind (hx ρ σ _ ha P s g _ fun v₁ d₁ σ₁ s₁ h₁ st₁ ok₁ r₁=>?_)
  have g₁:=g.next st₁ ok₁
  refine wpAny_bind (wpAny_standAt ?_)
  obtain ⟨⟨a,dx,fs,rfl,hs,hg⟩,h₁⟩:=h₁
  have r₁':=r₁
  simp only [Rep] at r₁
  subst r₁
  have hpos:methodCallPos true (emb N o) env ap p=pure p:=by unfold methodCallPos; simp [hl]
  unfold methodCall
  rw [form_ok hn]
  refine wpAny_bind (wpAny_holding (method_sound g₁ hm hs hg ?_))
  refine wpAny_bind (wpAny_of_eq hpos ?_)
  have fin:∀ us ds σ₂ s₂,S (.obj a::ds) σ₂ Φ c.X→Step c.W noF σ₁ σ₂ s₁ s₂→StoreOk σ₂ P s₂.heap→RepL (nd σ₂ P) s₂.heap ds us→wpAny c.M A (call (.ref f) ([.ref a]++us)) Q c.E s₂:=by
    intro us ds σ₂ s₂ hS st₂ ok₂ r₂
    have g₂:=g₁.next st₂ ok₂
    refine wpAny_call ?_
    exact call_on hA hF V g₂ hS (RepL.cons (by simp [Rep]) r₂) (st₁.trans st₂) hQ
  cases args with
  | nil=>
    simp only [embL_nil,embL_cons] at hy ⊢
    cases hy
    exact callWith_K0 (kin g₁) hm.keep (fin [] [] σ₁ s₁ h₁ (Step.refl _ _ _ _) ok₁ RepL.nil)
  | cons e r=>
    have h0:=L_args (pos:=p) (e::r) xs hy ρ σ₁ _ h₁ P s₁ g₁
    have pl:=plain_star (env:=env) (pos:=p) N r
    simp only [embL_nil,embL_cons] at h0 ⊢
    refine callWith_K (kin g₁) hm.keep (h0 _ fun us ds σ₂ s₂ hS st₂ ok₂ r₂=>⟨kin (g₁.next st₂ ok₂),fin us ds σ₂ s₂ hS st₂ ok₂ r₂⟩) (emb_star N e _ env) pl
set_option tactic.hygienic true in
theorem L_lm {N:Nms} {k:LM} {ap p:Pos} {o:PE} {args:List PE} {x:VT} {xs:List VT} (hl:(ap.endLine==p.line)=true) (hb:baseOk o=true) (hn:args.length≤5)
    (hx:SndV c A nm vs env x (emb N o)) (hy:SndL c A nm vs env xs (embL N args)) :
    SndV c A nm vs env (.of fun ρ σ Φ=>x.v ρ σ fun d σ₁=>lmOk k d σ₁∧argsV xs ρ σ₁ fun ds σ₂=>lmS k d ds σ₂ Φ) (.Call (.Attribute (emb N o) (Str.ofString k.name) ap) (embL N args) [] p):=by
  intro ρ σ Φ ha P s g Q hQ
  rw [arm_eval_Call,emb_base N o _ _ _ hb]
  refine wpAny_bind (hx ρ σ _ ha P s g _ fun v₁ d₁ σ₁ s₁ h₁ st₁ ok₁ r₁=>?_)
  have g₁:=g.next st₁ ok₁
  refine wpAny_bind (wpAny_standAt ?_)
  obtain ⟨hk,h₁⟩:=h₁
  have hpos:methodCallPos true (emb N o) env ap p=pure p:=by unfold methodCallPos; simp [hl]
  unfold methodCall
  rw [form_ok hn]
  refine wpAny_bind (wpAny_holding (lm_method g₁ hk r₁ ?_))
  refine wpAny_bind (wpAny_of_eq hpos ?_)
  cases args with
  | nil=>
    simp only [embL_nil,embL_cons] at hy
    cases hy
    simp only [argsV] at h₁
    cases k <;> exact h₁.elim
  | cons e r=>
    have h0:=L_args (pos:=p) (e::r) xs hy ρ σ₁ _ h₁ P s₁ g₁
    have pl:=plain_star (env:=env) (pos:=p) N (e::r)
    simp only [embL_nil,embL_cons] at h0 pl ⊢
    rw [emb_star] at h0 pl ⊢
    refine Calls.callWith_builtin pl (Calls.evalArgs_plain ?_)
    refine h0 _ fun us ds σ₂ s₂ hS st₂ ok₂ r₂=>?_
    exact lm_sound (g₁.next st₂ ok₂) hS (Rep.stay (st₂.stay g.wp) _ _ r₁) r₂ fun v d σ'' s'' a b e f=>hQ v d σ'' s'' a ((st₁.trans st₂).trans b) e f
theorem L_dct {p:Pos}:SndV c A nm vs env (.of fun _ σ Φ=>∀ a,freshIn σ a→Φ (.obj a) (σ.set a (.mdict []))) (.Dict [] [] p):=by
  intro ρ σ Φ ha P s g Q hQ
  exact dct_sound g g.big ha hQ
theorem L_subd {x y:VT} {o i:Expr} {p:Pos} (hi:∀ a b,subscripted i false a b=operate [a,b] (getItem a b)) (hx:SndV c A nm vs env x o) (hy:SndV c A nm vs env y i) :
    SndV c A nm vs env (.of fun ρ σ Φ=>x.v ρ σ fun a σ₁=>y.v ρ σ₁ fun b σ₂=>subdS a b σ₂ Φ) (.Subscript o i p):=by
  intro ρ σ Φ h P s g Q hQ
  refine Subscript_ (R_two g (hx ρ σ _ h) (fun d σ' hd=>hy ρ σ' _ hd) fun v₁ v₂ d₁ d₂ σ' s' hb st g' r₁ r₂=>?_)
  exact subd_sound hi g' hb r₁ r₂ fun v d σ'' s'' a b e f=>hQ v d σ'' s'' a (st.trans b) e f
end
theorem rangeD2_get {x y:Int} {k:Nat} {d:D} (h:(rangeD2 x y)[k]?=some d):d = .int (x+k)∧(k:Int)<y - x:=by
  unfold rangeD2 at h
  rw [List.getElem?_map] at h
  cases e:(List.range (y - x).toNat)[k]? with
  | none=>rw [e] at h; cases h
  | some j=>
    rw [e] at h
    cases h
    obtain ⟨h1,h2⟩:=List.getElem?_eq_some_iff.mp e
    simp only [List.length_range] at h1
    simp only [List.getElem_range] at h2
    subst h2
    exact ⟨rfl,by omega⟩
theorem rangeD2_length (x y:Int):(rangeD2 x y).length=(y - x).toNat:=by simp [rangeD2]
theorem Turns.range2 {c:Cx} {A:Around} (hh:A.handled=none) (I:Addr) (x y:Int):Turns c A I (rangeD2 x y) (fun _ _ _=>True) (fun k h=>IsRangeIter h I (x+(k:Int)) (((y - x).toNat:Int) - k) 1) where
  mv:=fun k h h' x k'=>k' _ x
  alive:=fun k h x=>⟨_,_,x,rfl⟩
  item:=fun k d s σ P Q E hd it _ hQ=>by
    obtain ⟨rfl,hk⟩:=rangeD2_get hd
    refine wpAny_pyNext_range_item it (by omega) fun h' hit' hs'=>hQ _ h' _ ?_ hs' rep_int
    have e1:x+((k+1:Nat):Int)=x+(k:Int)+1:=by omega
    have e2:((y - x).toNat:Int) - ((k+1:Nat):Int)=((y - x).toNat:Int) - k - 1:=by omega
    rw [e1,e2]; exact hit'
  done:=fun s σ P Q E it _ hQ=>by
    rw [rangeD2_length] at it
    exact wpAny_pyNext_range_end hh it (by omega) fun h' he=>hQ h' s.toks he
  self:=fun k s σ P Q E it _ hQ=>by
    refine (Walks.range (prog:=c.prog) (w:=c.w) hh I x 1 (y - x).toNat).self k s Q E ?_ hQ
    show IsRangeIter s.heap I (x+(k:Nat)*1) (((y - x).toNat:Int) - (k:Nat)) 1
    rw [Int.mul_one]; exact it
section
variable {c:Cx} {A:Around} {nm:Nat→Str} {vs:List Nat} {env:Env}
theorem itv_range2 {σ:Store} {P:Addr→Prop} {s:Shared} {r:Addr} {x y:Int} {t u w:Tok} (hh:A.handled=none) (hr:IsRange s.heap r x y 1 t u w) (h1 : -small≤x) (h2:x≤small) (h3 : -small≤y) (h4:y≤small):ItV c A .none (rangeD2 x y) σ P (.ref r) s:=by
  unfold small at h1 h2 h3 h4
  refine ⟨.none,rep_none,trivial,fun Q E hQ=>wpAny_pyIter_range hr (small_one (by omega) (by omega) (by omega) (by omega)) (hQ s.heap.objs.size _ _ _ (get?_size_none _) (keeps_push' s _) (Turns.range2 hh _ x y) ?_ fun _ _ _ _ _ _=>trivial)⟩
  show IsRangeIter _ _ (x+((0:Nat):Int)) (((y - x).toNat:Int) - ((0:Nat):Int)) 1
  have e:Builtin.Range.rangeSize x y 1=((y - x).toNat:Int) - ((0:Nat):Int):=by rw [rangeSize_one]; split <;> omega
  rw [← e,show x+((0:Nat):Int)=x by omega]
  exact Heap.get?_push_size _ rfl
set_option tactic.hygienic true in
theorem L_range2 {N:Nms} {g:Str} {gp p:Pos} {a b:PE} {v w:VT} (hh:A.handled=none) (eo:EnvOk nm vs env) (hx:env.kindOf g=some .globalImplicit) (hd:(g==("__debug__" : Str))=false) (hv:c.glob g=some (.type "range")) (ha:SndV c A nm vs env v (emb N a)) (hb:SndV c A nm vs env w (emb N b)) :
    SndI c A nm vs env (fun ρ σ Φ=>v.v ρ σ fun d σ₁=>w.v ρ σ₁ fun e σ₂=>match d,e with | .int x,.int y => -small≤x∧x≤small ∧ -small≤y∧y≤small∧Φ .none (rangeD2 x y) σ₂ | _,_=>False) (.Call (.Name g gp) [emb N a,emb N b] [] p):=by
  intro ρ σ Φ hh' P s g Q hQ
  rw [arm_eval_Call_Name']
  refine wpAny_bind (R_glob eo hx hd hv g ?_)
  refine PyProof.Rows.callWith_type1 ?_ (emb_star N a _ env) (by rw [emb_star]; rfl)
  refine args_cons (ha ρ σ _ hh' P s g _ fun u d σ₁ s₁ hS st₁ ok₁ r₁=>?_) (emb_star N a _ env)
  have g₁:=g.next st₁ ok₁
  refine args_cons (hb ρ σ₁ _ hS P s₁ g₁ _ fun u' e σ₂ s₂ hT st₂ ok₂ r₂=>?_) (emb_star N b _ env)
  have g₂:=g₁.next st₂ ok₂
  replace r₁:=Rep.stay (st₂.stay g.wp) _ _ r₁
  clear hS
  split at hT
  · rename_i x y
    simp only [Rep] at r₁ r₂
    obtain ⟨t,rfl⟩:=r₁
    obtain ⟨t',rfl⟩:=r₂
    refine args_nil (call_range_2 ?_)
    have kp:=keeps_push s₂ ({ cls := .type "range",data := .fields #[.int x t,.int y t',.int 1 s₂.toks] }:Obj) (s₂.toks+1)
    exact hQ _ _ _ σ₂ _ hT.2.2.2.2 ((st₁.trans st₂).trans (Step.of_keeps kp)) (g₂.st.keeps (keeps_heap kp)) (itv_range2 hh (IsRange.new _ _ _ _ _ _ _) hT.1 hT.2.1 hT.2.2.1 hT.2.2.2.1)
  · exact hT.elim
theorem Room.make {n:Nat} (h:Room (n+1) A) (C:Addr) (us:List Value):Room n (A.under (.builtin "type.__call__" ⟨.ref C::us,[]⟩)):=by
  obtain ⟨a,b,d⟩:=h
  refine ⟨a,?_,?_⟩
  · show A.depth+1+n≤900; omega
  · show A.units+1+10*n+500≤9000; omega
set_option tactic.hygienic true in
theorem new_sound {n:Nat} {C f:Addr} {S:Spec} {ds:List D} {us:List Value} {ρ σ P s} {Q:Value→Shared→Prop} {Φ:D→Store→Prop} (hA:Room (n+1) A) (hF:A.frames=some c.l) (g:Good c nm vs env ρ σ P s) (hn:NewOk c.K C f) (V:Valid c.toBx n f S) (h:newS C S ds σ Φ c.X) (hr:RepL (nd σ P) s.heap ds us)
    (hQ:∀ v d σ' s',Φ d σ'→Step c.W noF σ σ' s s'→StoreOk σ' P s'.heap→Rep (nd σ' P) s'.heap d v→Q v s'):wpAny c.M A (call (.ref C) us) Q c.E s:=by
  have X:=kin g
  refine wpAny_call ?_
  have hne:s.heap.objs.size≠s.heap.objs.size+1:=Nat.ne_of_lt (Nat.lt_succ_self _)
  have hn1:s.heap.get? (s.heap.objs.size+1)=none:=by
    cases e:s.heap.get? (s.heap.objs.size+1) with
    | none=>rfl
    | some o=>exact absurd (Heap.lt_size e) (Nat.not_lt.mpr (Nat.le_succ _))
  have kp:Keeps s { s with heap:=(s.heap.push emptyDict).push (instObj C s.heap.objs.size) }:=⟨_,s.toks,rfl,fun b o e=>Heap.get?_push_of_some _ (Heap.get?_push_of_some _ e)⟩
  have hsz:(s.heap.push emptyDict).objs.size=s.heap.objs.size+1:=Heap.size_push ..
  have o1:((s.heap.push emptyDict).push (instObj C s.heap.objs.size)).get? (s.heap.objs.size+1)=some (instObj C s.heap.objs.size):=by
    rw [← hsz]; exact Heap.get?_push_size _ rfl
  have o2:((s.heap.push emptyDict).push (instObj C s.heap.objs.size)).get? s.heap.objs.size=some emptyDict:=Heap.get?_push_of_some _ (Heap.get?_push_size _ rfl)
  obtain ⟨st,ok⟩:=alloc_gen g (mo := .inst C s.heap.objs.size []) (a:=s.heap.objs.size+1) kp hn1 (fun x ⟨C',fs,e⟩=>by cases e; exact ⟨get?_size_none _,hne⟩) fun sty=>
    ⟨0,[],[],o1,o2,by simp [EntS],by simp,RepL.nil,List.nodup_nil,hne⟩
  have g₁:=g.next st ok
  have hS:=h (s.heap.objs.size+1) s.heap.objs.size (fresh_of_not_dom (g.not_dom hn1)) (fresh_of_not_dom (g.not_dom (get?_size_none _))) hne.symm
  have main:=call_on (us := .ref (s.heap.objs.size+1)::us) (A:=A.under (.builtin "type.__call__" ⟨.ref C::us,[]⟩)) (Q:=fun v s'=>v = .none∧Q (.ref (s.heap.objs.size+1)) s') (hA.make C us) hF V g₁ hS (RepL.cons (by simp [Rep]) (RepL.stay (st.stay g.wp) _ _ hr)) (Step.refl _ _ _ _)
    (fun v d σ' s' hd st' ok' hr'=>by
      obtain ⟨rfl,hΦ⟩:=hd
      simp only [Rep] at hr'
      exact ⟨hr',hQ _ (.obj _) σ' s' hΦ (st.trans st') ok' (by simp [Rep])⟩)
  obtain ⟨hp,gs,dr,tk,os⟩:=s
  refine make_core (makes_of X hn.makes) (looks_findIn X hn.init) (fun self=>bind_fn X self (beq_iff_eq.mp hn.isf)) (.inl (by rfl)) (codeAny_mono main fun r s' hr=>?_)
  unfold InitBack
  split at hr <;> first | exact hr | exact hr.elim
set_option tactic.hygienic true in
theorem L_new {N:Nms} {n C:Nat} {x:Str} {gp p:Pos} {es:List PE} {xs:List VT} {f:Addr} {S:Spec} (hA:Room (n+1) A) (hF:A.frames=some c.l) (eo:EnvOk nm vs env) (hx:env.kindOf x=some .globalImplicit) (hd:(x==("__debug__" : Str))=false) (hv:c.glob x=some (.ref C)) (hn:NewOk c.K C f) (V:Valid c.toBx n f S)
    (h:SndL c A nm vs env xs (embL N es)):SndV c A nm vs env (.of fun ρ σ Φ=>argsV xs ρ σ fun ds σ₁=>newS C S ds σ₁ Φ c.X) (.Call (.Name x gp) (embL N es) [] p):=by
  intro ρ σ Φ ha P s g Q hQ
  rw [arm_eval_Call_Name']
  refine wpAny_bind (R_glob eo hx hd hv g ?_)
  cases es with
  | nil=>
    simp only [embL_nil,embL_cons] at h ⊢
    cases h
    exact callWith_K0 (kin g) hn.keep (new_sound hA hF g hn V ha RepL.nil hQ)
  | cons e r=>
    have h0:=L_args (pos:=p) (e::r) xs h ρ σ _ ha P s g
    have pl:=plain_star (env:=env) (pos:=p) N r
    simp only [embL_nil,embL_cons] at h0 ⊢
    exact callWith_K (kin g) hn.keep (h0 _ fun us ds σ₁ s₁ hS st₁ ok₁ r₁=>⟨kin (g.next st₁ ok₁),new_sound hA hF (g.next st₁ ok₁) hn V hS r₁ fun v d σ'' s'' a b e f=>hQ v d σ'' s'' a (st₁.trans b) e f⟩) (emb_star N e _ env) pl
set_option tactic.hygienic true in
theorem R_sattr {N:Nms} {C:Nat} {name:Str} {ap p:Pos} {o e:PE} {x y:VT} (hs:∀ l b n q,swapsWith (emb N e) (some (.Attribute b n q)) l env=pure false) (ho:SetOk c.K C name) (hx:SndV c A nm vs env x (emb N o)) (hy:SndV c A nm vs env y (emb N e)) {ρ:PEnv} {σ:Store} {Φ:Res→Prop}
    (h:y.v ρ σ fun d σ₁=>x.v ρ σ₁ fun z σ₂=>setS C name z d σ₂ fun σ₃=>Φ (.next ρ σ₃)):WPs c A nm vs env ρ σ (exec (.Assign [.Attribute (emb N o) name ap] (emb N e) p) env) Φ:=by
  intro P s g Q hQ
  refine plainObj_wpAny_Assign_Attribute (hy ρ σ _ h P s g _ fun v₁ d₁ σ₁ s₁ h₁ st₁ ok₁ r₁=>?_) (hs _ _ _ _)
  have g₁:=g.next st₁ ok₁
  refine hx ρ σ₁ _ h₁ P s₁ g₁ _ fun v₂ d₂ σ₂ s₂ h₂ st₂ ok₂ r₂=>?_
  have g₂:=g₁.next st₂ ok₂
  obtain ⟨a,dx,fs,rfl,hm,hl,h₂⟩:=h₂
  simp only [Rep] at r₂
  subst r₂
  refine setattr_sound g₂ ho hm hl (Rep.stay (st₂.stay g.wp) _ _ r₁) fun s₃ st₃ ok₃=>?_
  exact hQ .next s₃ _ h₂ (((st₁.trans st₂).trans st₃).weak fun _ h=>h.elim) ⟨rfl,g₂.next st₃ ok₃⟩
set_option tactic.hygienic true in
theorem R_ssub {N:Nms} {sp p:Pos} {o i e:PE} {x y z:VT} (hs:∀ l tg,swapsWith (emb N e) (some tg) l env=pure false) (hx:SndV c A nm vs env x (emb N o)) (hz:SndV c A nm vs env z (emb N i)) (hy:SndV c A nm vs env y (emb N e)) {ρ:PEnv} {σ:Store} {Φ:Res→Prop}
    (h:y.v ρ σ fun d σ₁=>x.v ρ σ₁ fun w σ₂=>z.v ρ σ₂ fun k σ₃=>stoS w k d σ₃ fun σ₄=>Φ (.next ρ σ₄)):WPs c A nm vs env ρ σ (exec (.Assign [.Subscript (emb N o) (emb N i) sp] (emb N e) p) env) Φ:=by
  intro P s g Q hQ
  refine wpAny_Assign_Subscript (hy ρ σ _ h P s g _ fun v₁ d₁ σ₁ s₁ h₁ st₁ ok₁ r₁=>?_) (hs _ _)
  have g₁:=g.next st₁ ok₁
  refine hx ρ σ₁ _ h₁ P s₁ g₁ _ fun v₂ d₂ σ₂ s₂ h₂ st₂ ok₂ r₂=>?_
  have g₂:=g₁.next st₂ ok₂
  refine hz ρ σ₂ _ h₂ P s₂ g₂ _ fun v₃ d₃ σ₃ s₃ h₃ st₃ ok₃ r₃=>?_
  have g₃:=g₂.next st₃ ok₃
  refine sto_sound g₃ h₃ (Rep.stay (st₃.stay g.wp) _ _ r₂) r₃ (Rep.stay (st₃.stay g.wp) _ _ (Rep.stay (st₂.stay g.wp) _ _ r₁)) fun σ₄ s₄ h₄ st₄ ok₄=>?_
  exact hQ .next s₄ _ h₄ ((((st₁.trans st₂).trans st₃).trans st₄).weak fun _ h=>h.elim) ⟨rfl,g₃.next st₄ ok₄⟩
end
structure ExcOk (h:Heap) (C:Addr) (bm bmB:List Value) (newId initId:String):Prop where
  facts:ExcBaseFacts "ValueError" newId initId bmB
  obj:∃ N nm q bs hdct sn sub ab col dd k0 k1 k2 k3 k5 mN,h.get? C=some (excClassObj nm q C N bs bm hdct sn sub ab col dd k0 k1 k2 k3 k5 newId)∧h.Ns N mN∧mN "__init__" = none∧OwnTail h bmB bm
section
variable {c:Cx} {A:Around} {nm:Nat→Str} {vs:List Nat} {env:Env}
theorem Frs.keeps {h h':Heap} {l:List Env} (x:Frs h l) (k:∀ a o,h.get? a=some o→h'.get? a=some o):Frs h' l:=fun e he=>by
  obtain ⟨q1,L,o,q2,q3,q4⟩:=x e he
  exact ⟨q1,L,o,q2,k L o q3,q4⟩
theorem R_raise {x:Str} {C:Addr} {bm bmB:List Value} {newId initId:String} {m:Str} {gp mp cp p:Pos} {ρ:PEnv} {σ:Store} {Φ:Res→Prop} (hh:A.handled=none) (eo:EnvOk nm vs env) (hx:env.kindOf x=some .globalImplicit) (hd:(x==("__debug__" : Str))=false) (hv:c.glob x=some (.ref C))
    (O:ExcOk c.b C bm bmB newId initId) (h:c.X C σ):WPs c A nm vs env ρ σ (exec (.Raise (some (.Call (.Name x gp) [.Constant (.str m) 0 mp] [] cp)) none p) env) Φ:=by
  intro P s g Q hQ
  obtain ⟨N,nm',q,bs,hdct,sn,sub,ab,col,dd,k0,k1,k2,k3,k5,mN,hC,hN,hni,T⟩:=O.obj
  refine wpAny_Raise_call_subT (C:=C) (nm:=nm') (q:=q) (N:=N) (bs:=bs) (bm:=bm) (hdct:=hdct) (sn:=sn) (sub:=sub) (ab:=ab) (col:=col) (dd:=dd) (k0:=k0) (k1:=k1) (k2:=k2) (k3:=k3) (k5:=k5)
    O.facts (mN:=mN) (T.hasType O.facts.hasBase) hh rfl hni (R_glob eo hx hd hv g ⟨rfl,?_⟩)
  refine Calls.evalArgs_plain ?_
  refine args_cons (wpAny_Constant_str (args_nil ?_)) rfl
  have kb:∀ b o,c.b.get? b=some o→({ s with toks:=s.toks+1 }:Shared).heap.get? b=some o:=g.base
  refine ⟨rfl,by show 1≤sizeLine; decide,kb _ _ hC,hN.keeps kb,T.keeps kb,fun h' e hm=>?_⟩
  have kp:Keeps s { s with heap:=h',toks:=s.toks+1 }:=⟨h',_,rfl,hm.keeps⟩
  refine c.exc e C σ _ h (g.since.trans (Step.of_keeps kp)) ((g.st.keeps hm.keeps).weak g.p0) (g.fr.keeps hm.keeps) ⟨?_,.inl ⟨s.heap,_,hm,g.since.alive⟩⟩
  cases e':c.s₀.heap.get? e with
  | none=>rfl
  | some o=>obtain ⟨o',q'⟩:=g.since.alive e o e'; have:=hm.new; rw [q'] at this; cases this
end
theorem Kp.refl (h₀:Heap) (l:List Env) (h:Heap):Kp h₀ l h h:=⟨fun _ _ e _ _=>e,fun _ o e _=>⟨o.slots,e⟩⟩
theorem isFl_same {h h':Heap} {a:Addr} {o:Obj} (e:h.get? a=some o) (e':h'.get? a=some o):isFl h' a=isFl h a:=by unfold isFl; rw [e,e']
theorem Kp.trans {h₀ h h' h'':Heap} {l:List Env} (x:Kp h₀ l h h') (y:Kp h₀ l h' h''):Kp h₀ l h h'':=
  ⟨fun a o e h0 hw=>by
    have e':=x.keep a o e h0 hw
    exact y.keep a o e' (h0.imp id fun q=>by rw [isFl_same e e']; exact q) hw,fun a o e hw=>by
    obtain ⟨sl,e'⟩:=x.slot a o e hw
    obtain ⟨sl',e''⟩:=y.slot a _ e' hw
    exact ⟨sl',e''⟩⟩
theorem land_any {M:Model} {A:Around} {E:Value→Shared→Prop} {s:Shared} {h₀:Heap} {l:List Env} {e C:Addr} {a0 fl:Value} {Q:Unit→Shared→Prop} (fr:Frs s.heap l) (x:s.heap.TracedAtW h₀ e (.ref C) a0 fl)
    (hQ:∀ h',h'.TracedAtW h₀ e (.ref C) a0 .none→Kp h₀ l s.heap h'→Q () { s with heap:=h' }):wpAny M A (setFlight (.ref e) none) Q E s:=by
  obtain ⟨oe,vs,T,oT,ts,h1,h2,h3,h4,h5,h6,h7,h8,h9⟩:=x
  have hsz:3<ts.size:=(Array.getElem?_eq_some_iff.mp h9).1
  refine wpAny_setFlight_none h1 h3 h4 h7 h8 hsz ?_
  have other:∀ b,b≠T→(s.heap.update T (Obj.mapFields (·.setIfInBounds 3 .none))).get? b=s.heap.get? b:=fun b hb=>Heap.get?_update_other _ _ (Ne.symm hb)
  refine hQ _ ⟨oe,vs,T,_,_,(other e (Ne.symm h6)).trans h1,h2,h3,h4,h5,h6,Heap.get?_update_self _ h7 (Obj.isFreed_of_fields (Obj.data_mapFields h8 _)),Obj.data_mapFields h8 _,by simp [hsz]⟩ ⟨fun a o e' h0' hw=>?_,fun a o e' hw=>?_⟩
  · refine (other a fun q=>?_).trans e'
    rcases h0' with ⟨o₀,e0⟩ | e0
    · rw [q,h5] at e0; cases e0
    · rw [q,isFl_of h7 h8] at e0; cases e0
  · refine ⟨o.slots,(other a fun q=>?_).trans e'⟩
    subst q
    obtain ⟨o2,e2,e3⟩:=frs_w fr a hw
    rw [h7] at e2; cases e2
    exact e3 ts h8
noncomputable def Exc (h:Heap) (C:Addr) (bm:List Value):Prop:=∃ bmB newId initId,ExcOk h C bm bmB newId initId
noncomputable def Catches (h:Heap) (v:Value) (C:Addr) (b:Bool):Prop:=∃ bm,Exc h C bm∧((∃ D bmD,v = .ref D∧Exc h D bmD∧(Value.ref C::bm).contains (.ref D)=b)∨(v = .type "ValueError" ∧ bm.contains (.type "ValueError")=b))
theorem ve_sub:isSubtype (.type "ValueError") (.type "BaseException")=pure true:=by rw [isSubtype_type]; kernel_rfl
theorem ve_not:isSubtype (.type ((Manifest.find? "ValueError").elim "type" fun x=>x.metatype)) (.type "tuple")=pure false:=by rw [isSubtype_type]; kernel_rfl
section
variable {M:Model} {prog:Program} {w:World} {A:Around} {E:Value→Shared→Prop} {s:Shared} {b:Heap} {e C:Addr} {oe:Obj}
theorem match_own {nm q nm' q':Str} {N N' D:Addr} {bs bm bs' bm':List Value} {hdct hdct':Bool} {sn sn':List Str} {sub sub':List Value} {ab ab':Bool} {col col':Option Bool} {dd dd':Option Addr} {k0 k1 k2 k3 k5 j0 j1 j2 j3 j5:Option Value} {newId newId':String}
    {h:Heap} {g:Array GenState} {d:Drawn} {t:Nat} {os:OsState} {Q:Bool→Shared→Prop} {r:Bool}
    (hC:h.get? C=some (excClassObj nm q C N bs bm hdct sn sub ab col dd k0 k1 k2 k3 k5 newId)) (hD:h.get? D=some (excClassObj nm' q' D N' bs' bm' hdct' sn' sub' ab' col' dd' j0 j1 j2 j3 j5 newId')) (he:h.get? e=some oe) (hcls:oe.cls = .ref C)
    (hbase:bm'.contains (.type "BaseException")=true) (hr:(Value.ref C::bm).contains (.ref D)=r) (hq:Q r ⟨h,g,d,t,os⟩):wpAny M A (excMatches (.ref e) (.ref D)) Q E ⟨h,g,d,t,os⟩:=by
  have hcB:(Value.ref D::bm').contains (.type "BaseException")=true:=by rw [List.contains_cons,hbase,Bool.or_true]
  have f:=tc_notTuple
  unfold excMatches
  repeat (first | (with_reducible refine wpAny_loadPart_at he ?_; rw [hcls]) | with_reducible refine wpAny_loadPart_at hD ?_ | (with_reducible refine wpAny_isSubtype_exc hD ?_; rw [hcB]) | wp_step)
  refine wpAny_isSubtype_exc hC ?_
  rw [hr]
  cases r with
  | true=>
    rw [if_pos rfl]
    exact wpAny_pure (wpAny_pure (wpAny_pure hq))
  | false=>
    rw [if_neg Bool.false_ne_true]
    exact wpAny_pure (wpAny_pure (wpAny_pure hq))
theorem ExcOk.base {h:Heap} {C:Addr} {bm bmB:List Value} {newId initId:String} (O:ExcOk h C bm bmB newId initId):bm.contains (.type "BaseException")=true:=by
  obtain ⟨N,nm',q,bs,hdct,sn,sub,ab,col,dd,k0,k1,k2,k3,k5,mN,hC,hN,hni,T⟩:=O.obj
  exact T.hasType O.facts.hasBase
theorem match_any {v:Value} {r:Bool} {Q:Bool→Shared→Prop} (kb:∀ a o,b.get? a=some o→s.heap.get? a=some o) (hc:Catches b v C r) (he:s.heap.get? e=some oe) (hcls:oe.cls = .ref C) (hq:Q r s):wpAny M A (excMatches (.ref e) v) Q E s:=by
  obtain ⟨h,g,d,t,os⟩:=s
  obtain ⟨bm,⟨bmB,n1,n2,O⟩,hc⟩:=hc
  obtain ⟨N,nm',q,bs,hdct,sn,sub,ab,col,dd,k0,k1,k2,k3,k5,mN,hC,hN,hni,T⟩:=O.obj
  rcases hc with ⟨D,bmD,rfl,⟨bmB',n1',n2',O'⟩,hr⟩ | ⟨rfl,hr⟩
  · obtain ⟨N',nm'',q',bs',hdct',sn',sub',ab',col',dd',j0,j1,j2,j3,j5,mN',hD,hN',hni',T'⟩:=O'.obj
    exact match_own (kb _ _ hC) (kb _ _ hD) he hcls O'.base hr hq
  · exact wpAny_excMatches_sub_type (T := "ValueError") (kb _ _ hC) he hcls ve_sub ve_not (hr.symm▸hq)
theorem isx_any {Q:Value→Shared→Prop} (kb:∀ a o,b.get? a=some o→s.heap.get? a=some o) (hc:Catches b (.type "ValueError") C true) (he:s.heap.get? e=some oe) (hcls:oe.cls = .ref C) (h:Q (.bool true) s) :
    wpAny (model prog w) A (call (.builtin "isinstance") [.ref e,.type "ValueError"]) Q E s:=by
  obtain ⟨bm,⟨bmB,n1,n2,O⟩,hc⟩:=hc
  obtain ⟨N,nm',q,bs,hdct,sn,sub,ab,col,dd,k0,k1,k2,k3,k5,mN,hC,hN,hni,T⟩:=O.obj
  rcases hc with ⟨D,bmD,q,_⟩ | ⟨_,hr⟩
  · cases q
  have hC':=kb _ _ hC
  have hc':(Value.ref C::bm).contains (.type "ValueError")=true:=by rw [List.contains_cons,hr,Bool.or_true]
  refine call_isinstance_of ?_ (by intro e; cases e)
  unfold Builtin.«isinstance.nested»
  obtain ⟨hp,g,d,t,os⟩:=s
  have tyE:∀ {Q:Value→Shared→Prop} {A:Around} {E:Value→Shared→Prop},Q (.ref C) ⟨hp,g,d,t,os⟩→wpAny (model prog w) A (typeOf (.ref e)) Q E ⟨hp,g,d,t,os⟩:=fun {Q A E} hq=>by
    unfold typeOf
    repeat (first | (with_reducible refine wpAny_loadPart_at he ?_; rw [hcls]) | wp_step)
    exact hq
  refine wpAny_bind (m:=typeOf (.ref e)) (tyE ?_)
  show wpAny _ _ (if (Value.ref C==Value.type "ValueError")=true then _ else _) _ _ _
  rw [if_neg (by simp)]
  refine wpAny_bind (m:=typeOf (.type "ValueError")) (wpAny_of_eq (a := .type "type") (by kernel_rfl) ?_)
  show wpAny _ _ (if (Value.type "type" == Value.type "type")=true then _ else _) _ _ _
  rw [if_pos (by decide)]
  refine wpAny_bind (wpAny_bind (m:=isType (.type "ValueError")) (wpAny_pure (a:=true) ?_))
  refine wpAny_bind (m:=isInstance (.ref e) (.type "ValueError")) ?_
  unfold isInstance
  refine wpAny_bind (tyE ?_)
  refine wpAny_isSubtype_exc hC' ?_
  rw [hc']
  exact wpAny_pure (a:=true) (wpAny_pure h)
end
noncomputable def Cx.hand (c:Cx) (E':Value→Shared→Prop) (cu:Option (Nat×Addr)):Cx:={ c with E:=E',X:=fun _ _=>False,cur:=cu,exc:=fun _ _ _ _ h=>h.elim }
theorem Good.toHand {c:Cx} {nm vs env ρ σ P s E' cu} (g:Good c nm vs env ρ σ P s) (hc:∀ i C,cu=some (i,C)→i∈vs∧∃ a o,VarIs env s.heap (nm i) (.ref a)∧nd σ P a∧s.heap.get? a=some o∧o.cls = .ref C∧∃ fs,o.data = .fields fs):Good (c.hand E' cu) nm vs env ρ σ P s:=
  ⟨g.base,g.ns,g.cell,g.var,g.st,g.own,g.fresh,g.prot,g.wp,g.wb,g.fr,g.p0,g.since,hc⟩
theorem Good.ofHand {c:Cx} {nm vs env ρ σ P s E' cu} (hcu:c.cur=none) (g:Good (c.hand E' cu) nm vs env ρ σ P s):Good c nm vs env ρ σ P s:=
  ⟨g.base,g.ns,g.cell,g.var,g.st,g.own,g.fresh,g.prot,g.wp,g.wb,g.fr,g.p0,g.since,fun i C hc=>by rw [hcu] at hc; cases hc⟩
theorem ResOk.ofHand {c:Cx} {nm vs env P r f s E' cu} (hcu:c.cur=none) (x:ResOk (c.hand E' cu) nm vs env P r f s):ResOk c nm vs env P r f s:=by
  cases r with
  | ret d σ=>exact x
  | _=>exact ⟨x.1,x.2.ofHand hcu⟩
structure Caught (c:Cx) (nm:Nat→Str) (vs:List Nat) (env:Env) (ρ:PEnv) (σ₀ σ:Store) (P:Addr→Prop) (s₀ s:Shared) (e C:Addr):Prop where
  good:∀ h',Kp s₀.heap c.l s.heap h'→Good c nm vs env ρ σ P { s with heap:=h' }∧Step c.W noF σ₀ σ s₀ { s with heap:=h' }
  tr:∃ a0,s.heap.TracedAtW s₀.heap e (.ref C) a0 .none
  nd:nd σ P e
section
variable {c:Cx} {A:Around} {nm:Nat→Str} {vs:List Nat} {env:Env} {ρ:PEnv} {Φ:Res→Prop}
noncomputable def SndH (c:Cx) (A:Around) (nm:Nat→Str) (vs:List Nat) (env:Env) (ρ:PEnv) (Φ:Res→Prop) (hs:List ExceptHandler) (tr:Addr→Store→Prop):Prop:=
  ∀ (e C:Addr) (σ₀ σ:Store) (P:Addr→Prop) (s₀ s:Shared) (Q:Flow→Shared→Prop),Caught c nm vs env ρ σ₀ σ P s₀ s e C→tr C σ→
    (∀ f s' r,Φ r→Step c.W (FrA env) σ₀ r.sto s₀ s'→ResOk c nm vs env P r f s'→Q f s')→wpAny c.M A (handleBy (.ref e) env hs) Q c.E s
theorem Caught.now {σ₀ σ P s₀ s e C} (k:Caught c nm vs env ρ σ₀ σ P s₀ s e C):Good c nm vs env ρ σ P s:=(k.good s.heap (Kp.refl _ _ _)).1
theorem Caught.obj {σ₀ σ P s₀ s e C} (k:Caught c nm vs env ρ σ₀ σ P s₀ s e C):∃ oe fs,s.heap.get? e=some oe∧oe.cls = .ref C∧oe.data = .fields fs:=by
  obtain ⟨a0,oe,vs,T,oT,ts,h1,h2,h3,_⟩:=k.tr
  exact ⟨oe,vs,h1,h2.1,h3⟩
theorem H_nil:SndH c A nm vs env ρ Φ [] fun _ _=>False:=fun _ _ _ _ _ _ _ _ _ h=>h.elim
theorem H_test {x:Str} {gp:Pos} {v:Value} {e C:Addr} {σ₀ σ:Store} {P:Addr→Prop} {s₀ s:Shared} {b:Bool} {pos:Pos} {R:Result→Shared→Prop} {A':Around} (eo:EnvOk nm vs env) (hx:env.kindOf x=some .globalImplicit) (hd:(x==("__debug__" : Str))=false) (hv:c.glob x=some v)
    (k:Caught c nm vs env ρ σ₀ σ P s₀ s e C) (hc:Catches c.b v C b) (h:R (.ok (if b then .brk else .next)) s):codeAny c.M A' (.handlers (.ref e) [.ExceptHandler (some (.Name x gp)) none [] pos] env) R s:=by
  obtain ⟨oe,fs,he,hcls,_⟩:=k.obj
  exact codeAny_handlers_test (R_glob eo hx hd hv k.now (match_any k.now.base hc he hcls h))
theorem H_mk {x:Str} {gp p:Pos} {v:Value} {cs os:List Nat} {b₀:Stmt} {body:List Stmt} {rest:List ExceptHandler} {tb tr:Addr→Store→Prop} (hcu:c.cur=none) (eo:EnvOk nm vs env) (hx:env.kindOf x=some .globalImplicit) (hd:(x==("__debug__" : Str))=false) (hv:c.glob x=some v)
    (h1:∀ C∈cs,Catches c.b v C true) (h2:∀ C∈os,Catches c.b v C false) (hb:∀ e C E' σ,tb C σ→WPs (c.hand E' none) (A.mark (some (.ref e))) nm vs env ρ σ (execs (b₀::body) env) Φ)
    (hr:SndH c A nm vs env ρ Φ rest tr):SndH c A nm vs env ρ Φ (.ExceptHandler (some (.Name x gp)) none (b₀::body) p::rest) fun C σ=>if cs.contains C then tb C σ else os.contains C=true∧tr C σ:=by
  intro e C σ₀ σ P s₀ s Q k ht hQ
  refine wpAny_handleBy_cons ?_ (by intro q; cases q)
  by_cases hc:cs.contains C=true
  · rw [if_pos hc] at ht
    refine H_test eo hx hd hv k (h1 C (by simpa using hc)) ?_
    refine codeAny_handlers_suite ?_
    obtain ⟨a0,htr⟩:=k.tr
    refine land_any k.now.fr htr fun h' htr' kp=>?_
    obtain ⟨g',st'⟩:=k.good h' kp
    refine hb e C _ σ ht P _ (g'.toHand fun i C' q=>by cases q) _ fun f s' r hΦ st ro=>?_
    exact hQ f s' r hΦ ((st'.weak fun _ h=>h.elim).trans st) (ro.ofHand hcu)
  · rw [if_neg hc] at ht
    refine H_test eo hx hd hv k (h2 C (by simpa using ht.1)) ?_
    exact hr e C σ₀ σ P s₀ s Q k ht.2 hQ
theorem at_put_self:∀ (ρ:PEnv) (i:Nat) (d:D),i<ρ.length→(ρ.put i d).at i=some d
  | [],_,_,h=>absurd h (by simp)
  | _::r,0,_,_=>rfl
  | _::r,i+1,d,h=>at_put_self r i d (by simpa using h)
theorem at_put_ne:∀ (ρ:PEnv) (i j:Nat) (d:D),j≠i→(ρ.put i d).at j=ρ.at j
  | [],_,_,_,_=>rfl
  | _::r,0,0,_,h=>absurd rfl h
  | _::r,0,j+1,_,_=>rfl
  | _::r,i+1,0,_,_=>rfl
  | _::r,i+1,j+1,d,h=>at_put_ne r i j d (by omega)
theorem Good.unput {σ P s x d} (g:Good c nm vs env (ρ.put x d) σ P s) (hx:ρ.at x=none):Good c nm vs env ρ σ P s:=
  ⟨g.base,g.ns,g.cell,fun i d' e=>g.var i d' (by rw [at_put_ne ρ x i d fun q=>by rw [q,hx] at e; cases e]; exact e),g.st,g.own,g.fresh,g.prot,g.wp,g.wb,g.fr,g.p0,g.since,g.cur⟩
theorem H_as {x:Str} {gp p:Pos} {v:Value} {cs os:List Nat} {i:Nat} {b₀:Stmt} {body:List Stmt} {rest:List ExceptHandler} {tb tr:Addr→Store→Prop} (hcu:c.cur=none) (hff:∀ a,FrA env a→c.F₀ a) (eo:EnvOk nm vs env) (hi:i∈vs) (hl:env.kindOf (nm i)=some .local) (hx:env.kindOf x=some .globalImplicit) (hd:(x==("__debug__" : Str))=false) (hv:c.glob x=some v)
    (h1:∀ C∈cs,Catches c.b v C true) (h2:∀ C∈os,Catches c.b v C false) (hb:∀ e C E' σ,tb C σ→WPs (c.hand E' (some (i,C))) (A.mark (some (.ref e))) nm vs env ρ σ (execs (b₀::body) env) (retO Φ))
    (hr:SndH c A nm vs env ρ Φ rest tr):SndH c A nm vs env ρ Φ (.ExceptHandler (some (.Name x gp)) (some (nm i)) (b₀::body) p::rest) fun C σ=>if cs.contains C then Nat.blt i ρ.length=true∧ρ.at i=none∧tb C σ else os.contains C=true∧tr C σ:=by
  intro e C σ₀ σ P s₀ s Q k ht hQ
  refine wpAny_handleBy_cons ?_ (by intro q; cases q)
  by_cases hc:cs.contains C=true
  · rw [if_pos hc] at ht
    obtain ⟨hlt,hnone,ht⟩:=ht
    refine H_test eo hx hd hv k (h1 C (by simpa using hc)) ?_
    refine codeAny_handlers_suite_as ?_
    obtain ⟨a0,htr⟩:=k.tr
    refine land_any k.now.fr htr fun h' htr' kp=>?_
    obtain ⟨g',st'⟩:=k.good h' kp
    refine store_sound (A:=A.mark (some (.ref e))) (d := .obj e) eo hi hff (fun C' q=>by rw [hcu] at q; cases q) g' (by simp only [Rep]) fun s₂ st₂ g₂=>?_
    obtain ⟨oe,vs',T,oT,ts,q1,q2,q3,_⟩:=htr'
    obtain ⟨_,v',hv',hr'⟩:=g₂.var i (.obj e) (at_put_self ρ i _ (by simpa [Nat.blt_eq] using hlt))
    simp only [Rep] at hr'
    subst hr'
    have e₂:s₂.heap.get? e=some oe:=st₂.keep e oe q1 k.nd.1 (fun hf=>by
      obtain ⟨o',ho',hs⟩:=g'.fr_alive hf
      rw [q1] at ho'; cases ho'
      exact hs.2 vs' q3) (fun hw=>k.nd.2 (g'.wp e hw))
    refine hb e C _ σ ht P s₂ ((g₂.unput hnone).toHand fun j C' q=>by cases q; exact ⟨hi,e,oe,hv',k.nd,e₂,q2.1,vs',q3⟩) _ fun f s₃ r hΦ st₃ ro=>?_
    cases r with
    | ret d σ₃=>
      obtain ⟨u,rfl,ok₃,r₃,m,hn⟩:=ro
      refine wpAny_nameGoes hl hn (by rw [eo.kind]; rfl) fun h₄ m' hn' hs₄=>?_
      have hL:FrA env env.locals := .inl rfl
      have k₄:∀ b o,b≠env.locals→s₃.heap.get? b=some o→h₄.get? b=some o:=fun b o hb e=>hs₄.extBut b o hb e
      have stay:Stay (nd σ₃ P) (nd σ₃ P) s₃.heap h₄:=fun a o hN ho ⟨items,n,hdt⟩=>⟨k₄ a o (fun q=>by
        obtain ⟨o',es,ep,ho',hd',_⟩:=hn
        rw [q,ho'] at ho; cases ho; rw [hd'] at hdt; cases hdt) ho,hN⟩
      have ndL:¬ dom σ₃ env.locals:=fun h=>(st₃.new _ h).elim (fun h=>(g₂.own _ h).2 hL) fun q=>by
        obtain ⟨m₂,o',es,ep,ho',_⟩:=g₂.ns
        rw [q] at ho'; cases ho'
      have st₄:Step c.W (FrA env) σ₃ σ₃ s₃ { s₃ with heap:=h₄,toks:=s₃.toks+1 }:=Step.mk' ⟨h₄,_,rfl⟩ (fun a o e hd hf=>k₄ a o (fun q=>hf (q▸hL)) e) (fun a o e=>by
        by_cases q:a=env.locals
        · obtain ⟨o',es,ep,ho',_⟩:=hn'; exact ⟨o',q▸ho'⟩
        · exact ⟨o,k₄ a o q e⟩) fun a h => .inl h
      exact hQ (.ret u) _ (.ret d σ₃) hΦ ((((st'.weak fun _ h=>h.elim).trans st₂).trans st₃).trans st₄) ⟨u,rfl,ok₃.fr stay ndL k₄,Rep.stay stay _ _ r₃,m',hn'⟩
    | _=>exact (show False from hΦ).elim
  · rw [if_neg hc] at ht
    refine H_test eo hx hd hv k (h2 C (by simpa using ht.1)) ?_
    exact hr e C σ₀ σ P s₀ s Q k ht.2 hQ
end
noncomputable def Cx.tri (c:Cx) (E':Value→Shared→Prop) (X':Addr→Store→Prop) (σ:Store) (s:Shared) (P:Addr→Prop) (hE:∀ e C σ' s',X' C σ'→Step (WL c.l) noF σ σ' s s'→StoreOk σ' P s'.heap→Frs s'.heap c.l→Fly c.l s.heap e C s'.heap→E' (.ref e) s'):Cx:=
  { c with E:=E',X:=X',cur:=none,F₀:=noF,σ₀:=σ,s₀:=s,P₀:=P,exc:=hE }
theorem Good.toTri {c:Cx} {nm vs env ρ σ P s E' X' hE} (g:Good c nm vs env ρ σ P s):Good (c.tri E' X' σ s P hE) nm vs env ρ σ P s:=
  ⟨g.base,g.ns,g.cell,g.var,g.st,g.own,g.fresh,g.prot,g.wp,g.wb,g.fr,fun _ h=>h,Step.refl _ _ _ _,fun i C q=>by cases q⟩
theorem Good.ofTri {c:Cx} {nm vs env ρ ρ' σ σ' P s s' E' X' hE} (hcu:c.cur=none) (g₀:Good c nm vs env ρ σ P s) (g:Good (c.tri E' X' σ s P hE) nm vs env ρ' σ' P s'):Good c nm vs env ρ' σ' P s':=
  ⟨g.base,g.ns,g.cell,g.var,g.st,g.own,g.fresh,g.prot,g.wp,g.wb,g.fr,g₀.p0,g₀.since.trans (g.since.weak fun _ h=>h.elim),fun i C hc=>by rw [hcu] at hc; cases hc⟩
theorem ResOk.ofTri {c:Cx} {nm vs env ρ σ P r f s s' E' X' hE} (hcu:c.cur=none) (g₀:Good c nm vs env ρ σ P s) (x:ResOk (c.tri E' X' σ s P hE) nm vs env P r f s'):ResOk c nm vs env P r f s':=by
  cases r with
  | ret d σ=>exact x
  | _=>exact ⟨x.1,Good.ofTri hcu g₀ x.2⟩
section
variable {c:Cx} {A:Around} {nm:Nat→Str} {vs:List Nat} {env:Env} {ρ:PEnv} {Φ:Res→Prop} {σ:Store}
set_option tactic.hygienic true in
theorem R_try {b:List Stmt} {h₀:ExceptHandler} {hs:List ExceptHandler} {p:Pos} {tr:Addr→Store→Prop} (hcu:c.cur=none) (hF:A.frames=some c.l) (hfr:Front c.l env)
    (hb:∀ E' s P hE,(∀ a,WL c.l a→P a)→WPs (c.tri E' tr σ s P hE) A nm vs env ρ σ (execs b env) Φ) (hh:SndH c A nm vs env ρ Φ (h₀::hs) tr):WPs c A nm vs env ρ σ (exec (.Try b (h₀::hs) [] [] p) env) Φ:=by
  intro P s g Q hQ
  refine wpAny_Try_except ?_
  refine hb _ s P ?hE g.wp P s g.toTri _ fun f s' r hΦ st ro=>?_
  case hE=>
    intro e C σ' s' hX st ok fr fl
    obtain ⟨r,L,hl,hL⟩:=hfr
    refine note_any (h₀:=s.heap) (C:=C) (by rw [hF,hl]) hL (by rw [← hl]; exact fr) st.alive (by rw [← hl]; exact fl) fun h₁ held kp₁=>?_
    rw [← hl] at held kp₁
    obtain ⟨hnew,env',r',L',a0,q1,q2,htr⟩:=held
    refine land_any (l:=c.l) (kp_frs fr kp₁) htr fun h₂ htr₂ kp₂=>?_
    have kp:=kp₁.trans kp₂
    have hnd:nd σ' P e:=by
      obtain ⟨oe,vs',T,oT,ts,q1,q2,q3,_⟩:=htr₂
      refine ⟨not_dom_of_fields (s:={ s' with heap:=h₂ }) (kp_store ok kp g.wp) q1 q3,fun hp=>?_⟩
      obtain ⟨o,ho⟩:=g.prot e hp
      rw [hnew] at ho; cases ho
    exact hh e C σ σ' P s { s' with heap:=h₂ } Q ⟨fun h' kp'=>⟨g.next (s':={ s' with heap:=h' }) (kp_step (s':=s') st (kp.trans kp')) (kp_store ok (kp.trans kp') g.wp),kp_step (s':=s') st (kp.trans kp')⟩,⟨a0,htr₂⟩,hnd⟩ hX hQ
  · have ro':=ro.ofTri hcu g
    have fin:=hQ f s' r hΦ st ro'
    cases f with
    | next=>exact wpAny_execs_nil fin
    | _=>exact fin
end
end Mine
end
section
open PySem PySem.W PySem.Calls PyProof.Rows Builtin Builtin.ObjectAttr Builtin.Getset_descriptor
set_option Elab.async false
set_option maxRecDepth 100000
namespace Mine
structure ClsOk (K:Frag) (C:Addr):Prop where
  ga:findIn K (.ref C) "__getattribute__" = some (some (.builtin "BaseException.__getattribute__"))
  gt:findIn K (.ref C) "__getattr__" = some none
  hm:mroIn K C (.type "object")=some true
  hB:mroIn K C (.type "BaseException")=some true
  cl:findIn K (.ref C) "__class__" = some (some (.builtin "object.__class__"))
  dn:specialIn K (.builtin "object.__class__") "__get__" = some (some (.builtin "getset_descriptor.__get__"))
  dt:takesIn K (.builtin "object.__class__")=some true
section
variable {prog:Program} {w:World} {A:Around} {E:Value→Shared→Prop} {K:Frag} {e C:Addr} {oe:Obj} {h:Heap} {g:Array GenState} {d:Drawn} {t:Nat} {os:OsState}
theorem exc_class {Q:Option Value→Shared→Prop} (X:K.In h) (O:ClsOk K C) (he:h.get? e=some oe) (hc:oe.cls = .ref C) (hq:Q (some (.ref C)) ⟨h,g,d,t+1,os⟩) :
    wpAny (model prog w) A (getAttr? (.ref e) "__class__") Q E ⟨h,g,d,t,os⟩:=by
  have L0:Looks (model prog w) h (typeOf (.ref e)) (.ref C):=hc▸(Looks.ld he).andThen .now
  have L1:=looks_findIn (M:=model prog w) X O.ga
  have L2:=looks_findIn (M:=model prog w) X O.gt
  unfold getAttr? getAttrBy? getAttrBy
  refine wpAny_bind (wpAny_mkText (wpAny_bind (wpAny_attempt (wpAny_holding (wpAny_bind (L0.at (wpAny_bind (L1.at ?_))))))))
  show wpAny _ _ (if (onTheHeap (Value.ref C)&&(Value.builtin "BaseException.__getattribute__" == Value.builtin "object.__getattribute__"))=true then _ else _) _ _ _
  rw [if_neg (by simp)]
  have L4:Looks (model prog w) h (Builtin.ObjectAttr.find (.ref e) (.ref C) "__class__") (.bind (.builtin "getset_descriptor.__get__") (.builtin "object.__class__")):=by
    have M1:=looks_findIn (M:=model prog w) X O.cl
    have M2:=looks_specialIn (M:=model prog w) X O.dn
    have M3:=looks_takesIn (M:=model prog w) X O.dt
    intro A' Q' E' s' k q
    unfold Builtin.ObjectAttr.find
    refine wpAny_bind (M1 _ _ _ _ k ?_)
    refine wpAny_bind (m:=Builtin.ObjectAttr.getOf _) (M2 _ _ _ _ k ?_)
    refine wpAny_bind (m:=dataDescriptor? _ _) ?_
    unfold dataDescriptor?
    refine wpAny_bind (M3 _ _ _ _ k ?_)
    exact wpAny_pure (wpAny_bind (wpAny_rule (wpAny_pure q)))
  have L5:=looks_mroIn (M:=model prog w) X O.hB
  unfold getAttrByItsOwn hookBefore
  rw [if_pos (show onTheHeap (Value.ref C)=true from rfl)]
  refine wpAny_bind (L2.at ?_)
  refine wpAny_bind (wpAny_attempt (wpAny_holding ?_))
  unfold callGetattribute boundAndCalled
  rw [if_neg (by simp)]
  have f3:=F.attr_ValueError.ga.bind (.ref e)
  refine wpAny_bind (wpAny_of_eq f3 ?_)
  refine wpAny_call (codeAny_call_builtin F.attr_ValueError.ga.plain F.entry_bexc_ga ?_)
  have hk:builtinKind "BaseException.__getattribute__" = some .slot:=by decide +kernel
  have hsplit:splitId "BaseException.__getattribute__" = some ("BaseException", "__getattribute__"):=by decide +kernel
  simp only [checkBuiltinCall,hk,hsplit]
  refine wpAny_bind ?_
  unfold isInstance
  refine wpAny_bind (L0.at (L5.at ?_))
  have ha:=F.args_bexc_ga (.ref e) (.str "__class__" t)
  rw [if_neg (by decide)]
  refine wpAny_mono (Q:=fun _ s'=>s'=⟨h,g,d,t+1,os⟩) (E:=fun _ _=>False) ?_ (fun _ s' hs=>?_) (fun _ _ z=>z.elim)
  · repeat (any_goals (first | assumption | rfl | wp_step))
  subst hs
  have L0':=L0
  refine wpAny_bind (m:=slotArgs _ _ _) (wpAny_pure ?_)
  refine wpAny_bind (wpAny_pure (wpAny_bind (L0.at (wpAny_bind (L4.at ?_)))))
  show wpAny _ _ (do let v←holding [Value.builtin "object.__class__"] (call (.builtin "getset_descriptor.__get__") [.builtin "object.__class__",.ref e,.ref C]); ret v) _ _ _
  have L6:=looks_mroIn (M:=model prog w) X O.hm
  refine wpAny_bind (wpAny_holding (wpAny_call ?_))
  refine codeAny_call_builtin KF.slot_gs.plain KF.entry_gs (KF.slot_gs.check _ _ _ _ _ _ _ _ KF.type_class (KF.args_gs _ _ _) ?_)
  unfold Builtin.«getset_descriptor.__get__» descrGet
  rw [dga_obj]
  refine wpAny_bind (wpAny_pure ?_)
  unfold descrGetter descrCheckInstance descrNameAndClass isInstance
  simp only [KF.owner_class]
  repeat lk
  refine ⟨Code.quiet_builtin _ (by decide +kernel),codeAny_builtin KF.entry_class ?_⟩
  unfold Builtin.«object.__class__» shownTypeOf
  repeat lk
  exact hq
set_option tactic.hygienic true in
theorem isx_no {D:Addr} {Q:Value→Shared→Prop} {s:Shared} (X:K.In s.heap) (O:ClsOk K C) (he:s.heap.get? e=some oe) (hc:oe.cls = .ref C)
    (hne:C≠D) (hD1:typeIn K (.ref D)=some (.type "type")) (hD2:(clsIn K D).isSome=true) (hC2:(clsIn K C).isSome=true) (hm:mroIn K C (.ref D)=some false) (hq:∀ tk,Q (.bool false) { s with toks:=tk }) :
    wpAny (model prog w) A (call (.builtin "isinstance") [.ref e,.ref D]) Q E s:=by
  obtain ⟨h,g,d,t,os⟩:=s
  have L0:Looks (model prog w) h (typeOf (.ref e)) (.ref C):=hc▸(Looks.ld he).andThen .now
  have L1:=looks_typeIn (M:=model prog w) X hD1
  have L5:=looks_mroIn (M:=model prog w) X hm
  have isT:∀ D',(clsIn K D').isSome=true→Looks (model prog w) h (isType (.ref D')) true:=fun D' hD'=>by
    obtain ⟨cd,hcd⟩:=Option.isSome_iff_exists.mp hD'
    unfold clsIn at hcd
    split at hcd
    · rename_i c' d' cd' sl' ho
      intro A' Q' E' s' k q
      unfold isType loadHead
      exact wpAny_bind (wpAny_loadPart (k _ _ (X _ _ ho)) (wpAny_pure q))
    · cases hcd
  refine call_isinstance_of ?_ (by intro e; cases e)
  unfold Builtin.«isinstance.nested»
  refine wpAny_bind (L0.at ?_)
  rw [if_neg (by simpa using hne)]
  refine wpAny_bind (L1.at ?_)
  rw [if_pos (by decide)]
  k_delta "plainIsInstance"
  refine wpAny_bind (wpAny_bind ((isT D hD2).at ?_))
  simp only [Bool.not_true,Bool.false_eq_true,if_false]
  have LI:Looks (model prog w) h (isInstance (.ref e) (.ref D)) false:=L0.andThen L5
  refine wpAny_bind (LI.at ?_)
  simp only [Bool.false_eq_true,if_false]
  refine wpAny_bind (exc_class X O he hc ?_)
  refine wpAny_bind ((isT C hC2).at ?_)
  simp only [Bool.not_true,Bool.false_eq_true,if_false]
  exact wpAny_bind (wpAny_rule (L5.at (wpAny_pure (hq _))))
noncomputable def IsxOk (h:Heap) (K:Frag) (v:Value) (C:Addr) (b:Bool):Prop:=(v = .type "ValueError" ∧ b=true∧Catches h v C true)∨(∃ D,v = .ref D∧b=true∧isIn K (.ref C) D=true) ∨
  (∃ D,v = .ref D∧b=false∧ClsOk K C∧C≠D∧typeIn K (.ref D)=some (.type "type")∧(clsIn K D).isSome=true∧(clsIn K C).isSome=true∧mroIn K C (.ref D)=some false)
theorem isx_all {v:Value} {r:Bool} {b:Heap} {Q:Value→Shared→Prop} {s:Shared} (kb:∀ a o,b.get? a=some o→s.heap.get? a=some o) (X:K.In b) (hc:IsxOk b K v C r) (he:s.heap.get? e=some oe) (hcls:oe.cls = .ref C) (hq:∀ tk,Q (.bool r) { s with toks:=tk }) :
    wpAny (model prog w) A (call (.builtin "isinstance") [.ref e,v]) Q E s:=by
  have X':K.In s.heap:=fun a o q=>kb _ _ (X a o q)
  rcases hc with ⟨rfl,rfl,hc⟩ | ⟨D,rfl,rfl,hc⟩ | ⟨D,rfl,rfl,O,hne,h1,h2,h3,h4⟩
  · exact isx_any kb hc he hcls (hq s.toks)
  · exact isi_call X' (fun M=>hcls▸(Looks.ld he).andThen .now) hc (by intro q; cases q) (hq s.toks)
  · exact isx_no X' O he hcls hne h1 h2 h3 h4 hq
end
end Mine
end
section
open PySem PySem.W PyProof.Rows
set_option Elab.async false
set_option linter.unusedVariables false
namespace Mine
theorem and2 {a b:Bool} (h:(a&&b)=true):a=true∧b=true:=Bool.and_eq_true_iff.mp h
theorem and3 {a b c:Bool} (h:(a&&b&&c)=true):(a=true∧b=true)∧c=true:=⟨and2 (and2 h).1,(and2 h).2⟩
theorem and4 {a b c d:Bool} (h:(a&&b&&c&&d)=true):((a=true∧b=true)∧c=true)∧d=true:=⟨and3 (and2 h).1,(and2 h).2⟩
theorem and5 {a b c d e:Bool} (h:(a&&b&&c&&d&&e)=true):(((a=true∧b=true)∧c=true)∧d=true)∧e=true:=⟨and4 (and2 h).1,(and2 h).2⟩
theorem and6 {a b c d e f:Bool} (h:(a&&b&&c&&d&&e&&f)=true):((((a=true∧b=true)∧c=true)∧d=true)∧e=true)∧f=true:=⟨and5 (and2 h).1,(and2 h).2⟩
theorem gOk_ok {t:Tb} {names:List (Str×NameKind)} {env:Env} {g:Nat} (h:t.gOk names g=true) (hn:Nm env names):env.kindOf (t.N.gn g)=some .globalImplicit∧(t.N.gn g==("__debug__" : Str))=false∧g∈t.gl:=by
  unfold Tb.gOk at h
  simp only [Bool.and_eq_true,Bool.not_eq_true'] at h
  exact ⟨hn.glob _ (by simpa using h.1.1),h.1.2,by simpa using h.2⟩
structure GX (c:Bx) (t:Tb):Prop where
  exc:∀ x∈t.excs,t.gv x.1 = .ref x.2∧∃ bm,Exc c.b x.2 bm
  sub:∀ x∈t.subs,(∀ C∈x.2.1,Catches c.b (t.gv x.1) C true)∧∀ C∈x.2.2,Catches c.b (t.gv x.1) C false
  isx:∀ x∈t.isxs,(∀ C∈x.2.1,IsxOk c.b c.K (t.gv x.1) C true)∧∀ C∈x.2.2,IsxOk c.b c.K (t.gv x.1) C false
structure At (n:Nat) (t:Tb) (S:Nat→Spec) (X:Exs) (c:Cx) (A:Around):Prop where
  G:GT c.toBx n t S
  gx:GX c.toBx t
  q:t.q=true→Room n A
  qc:t.q=true→t.cv=Option.none
  u:A.units+64<cLine
  F:A.frames=some c.l
  x:c.X=X.x
  cu:c.cur=t.cv.bind fun i=>X.cur.map fun C=>(i,C)
theorem At.cur {n t S X c A} (a:At n t S X c A) (hq:t.q=true):c.cur=Option.none:=by rw [a.cu,a.qc hq]; rfl
theorem At.block {n t S X c A} (a:At n t S X c A) (hq:t.q=true) (E:Value→Shared→Prop) (env:Env) (σ:Store) (P:Addr→Prop) (s:Shared):At n t S noX (c.block E env σ P s) A:=
  ⟨a.G,a.gx,a.q,a.qc,a.u,a.F,rfl,by rw [a.qc hq]; rfl⟩
section
variable {c:Cx} {A:Around} {nm:Nat→Str} {vs:List Nat} {env:Env}
theorem var_any {i:Nat} {p:Pos} {v:Value} {s:Shared} {Q:Value→Shared→Prop} {E:Value→Shared→Prop} (ok:EnvOk nm vs env) (hi:i∈vs) (hv:VarIs env s.heap (nm i) v) (fin:Q v s):wpAny c.M A (eval (.Name (nm i) p) env) Q E s:=by
  refine wpAny_Name ?_ (ok.dbg i hi)
  rcases hv with ⟨hk,m,hn,hm⟩ | ⟨hk,ca,hc,hcell⟩
  · exact wpAny_loadName_local ok.kind hk hn hm fin
  · exact wpAny_loadName_cell ok.kind hk hc hcell fin
theorem L_isx {x y:Str} {ip gp tp p:Pos} {i:Nat} {C:Addr} {v:Value} {cs os:List Nat} (eo:EnvOk nm vs env) (hx:env.kindOf x=some .globalImplicit) (hd:(x==("__debug__" : Str))=false) (hv:c.glob x=some (.builtin "isinstance"))
    (hy:env.kindOf y=some .globalImplicit) (hd':(y==("__debug__" : Str))=false) (hv':c.glob y=some v) (hcu:c.cur=some (i,C)) (hc:(∀ C∈cs,IsxOk c.b c.K v C true)∧∀ C∈os,IsxOk c.b c.K v C false) :
    SndV c A nm vs env (.of fun _ σ Φ=>exS cs os (some C) fun t=>Φ (.bool t) σ) (.Call (.Name x gp) [.Name (nm i) ip,.Name y tp] [] p):=by
  intro ρ σ Φ ha P s g Q hQ
  have ha:if cs.contains C then Φ (.bool true) σ else List.contains os C=true∧Φ (.bool false) σ:=ha
  rw [arm_eval_Call_Name']
  refine wpAny_bind (R_glob eo hx hd hv g ?_)
  refine callWith_builtin1 ?_ rfl rfl
  obtain ⟨hi,a,o,h1,h2,h3,h4,fs,h5⟩:=g.cur i C hcu
  refine args_cons (var_any eo hi h1 (args_cons (R_glob eo hy hd' hv' g (args_nil ?_)) rfl)) rfl
  by_cases q:cs.contains C=true
  · rw [if_pos q] at ha
    exact isx_all g.base c.KX (hc.1 C (by simpa using q)) h3 h4 fun tk=>fin_keeps g hQ ha (keeps_toks s tk) rep_bool
  · rw [if_neg q] at ha
    exact isx_all g.base c.KX (hc.2 C (by simpa using ha.1)) h3 h4 fun tk=>fin_keeps g hQ ha.2 (keeps_toks s tk) rep_bool
set_option tactic.hygienic true in
theorem L_intb {N:Nms} {x:Str} {gp p:Pos} {e:PE} {v:VT} (eo:EnvOk nm vs env) (hx:env.kindOf x=some .globalImplicit) (hd:(x==("__debug__" : Str))=false) (hv:c.glob x=some (.type "int")) (h:SndV c A nm vs env v (emb N e)) :
    SndV c A nm vs env (.of fun ρ σ Φ=>v.v ρ σ fun d σ'=>truthS d σ' fun b σ''=>Φ (.int (if b then 1 else 0)) σ'') (.Call (.Name x gp) [emb N e] [] p):=by
  intro ρ σ Φ ha P s g Q hQ
  rw [arm_eval_Call_Name']
  refine wpAny_bind (R_glob eo hx hd hv g ?_)
  refine PyProof.Rows.callWith_type1 ?_ (emb_star N e _ env) rfl
  refine args_cons (h ρ σ _ ha P s g _ fun u d σ₁ s₁ hS st₁ ok₁ r₁=>args_nil ?_) (emb_star N e _ env)
  have g₁:=g.next st₁ ok₁
  cases d with
  | bool b=>
    obtain rfl:u = .bool b:=r₁
    exact call_int_bool (fin_keeps g₁ (fun v d σ'' s'' a b e f=>hQ v d σ'' s'' a (st₁.trans b) e f) hS (keeps_toks s₁ _) rep_int)
  | _=>exact (show False from hS).elim
set_option tactic.hygienic true in
theorem L_lset {N:Nms} {x y:Str} {gp gp' p' p:Pos} {e:PE} {v:VT} (hh:A.handled=none) (eo:EnvOk nm vs env) (hx:env.kindOf x=some .globalImplicit) (hd:(x==("__debug__" : Str))=false) (hv:c.glob x=some (.builtin "len"))
    (hy:env.kindOf y=some .globalImplicit) (hd':(y==("__debug__" : Str))=false) (hv':c.glob y=some (.type "set")) (h:SndV c A nm vs env v (emb N e)) :
    SndV c A nm vs env (.of fun ρ σ Φ=>v.v ρ σ fun d σ'=>lsetS d σ' Φ) (.Call (.Name x gp) [.Call (.Name y gp') [emb N e] [] p'] [] p):=by
  intro ρ σ Φ ha P s g Q hQ
  rw [arm_eval_Call_Name']
  refine wpAny_bind (R_glob eo hx hd hv g ?_)
  refine callWith_builtin1 ?_ rfl rfl
  refine args_cons ?_ rfl
  rw [arm_eval_Call_Name']
  refine wpAny_bind (R_glob eo hy hd' hv' g ?_)
  refine PyProof.Rows.callWith_type1 ?_ (emb_star N e _ env) rfl
  refine args_cons (h ρ σ _ ha P s g _ fun u d σ₁ s₁ hS st₁ ok₁ r₁=>?_) (emb_star N e _ env)
  have g₁:=g.next st₁ ok₁
  refine args_nil ?_
  refine wpAny_mono (lset_sound hh g₁ hS r₁ fun v d σ'' s'' a b e f=>hQ v d σ'' s'' a (st₁.trans b) e f) (fun u s' h=>args_nil h) fun _ _ e=>e
set_option tactic.hygienic true in
theorem L_isi2 {N:Nms} {x y z:Str} {gp p₁ p₂ tp p:Pos} {k:Nat} {e:PE} {v:VT} (eo:EnvOk nm vs env) (hx:env.kindOf x=some .globalImplicit) (hd:(x==("__debug__" : Str))=false) (hv:c.glob x=some (.builtin "isinstance"))
    (hy:env.kindOf y=some .globalImplicit) (hd':(y==("__debug__" : Str))=false) (hv':c.glob y=some (.type "list")) (hz:env.kindOf z=some .globalImplicit) (hd'':(z==("__debug__" : Str))=false) (hv'':c.glob z=some (.type "tuple"))
    (h:SndV c A nm vs env v (emb N e)):SndV c A nm vs env (.of fun ρ σ Φ=>v.v ρ σ fun d σ'=>∃ t,ltS d σ'=some t∧Φ (.bool t) σ') (.Call (.Name x gp) [emb N e,.Tuple [.Name y p₁,.Name z p₂] k tp] [] p):=by
  intro ρ σ Φ ha P s g Q hQ
  rw [arm_eval_Call_Name']
  refine wpAny_bind (R_glob eo hx hd hv g ?_)
  refine callWith_builtin1 ?_ (emb_star N e _ env) rfl
  refine args_cons (h ρ σ _ ha P s g _ fun u d σ₁ s₁ hS st₁ ok₁ r₁=>?_) (emb_star N e _ env)
  have g₁:=g.next st₁ ok₁
  obtain ⟨t,e1,h1⟩:=hS
  refine args_cons (Tuple_ (args_cons (R_glob eo hy hd' hv' g₁ (args_cons (R_glob eo hz hd'' hv'' g₁ (args_nil ?_)) rfl)) rfl)) rfl
  have kp:=keeps_push' s₁ ({ cls := .type "tuple",data := .seq #[.type "list",.type "tuple"] }:Obj)
  have st₂:Step c.W noF σ₁ σ₁ s₁ _:=Step.of_keeps kp
  have g₂:=g₁.next st₂ (g₁.st.keeps (keeps_heap kp))
  refine wpAny_newObj_type (args_nil ?_) (by show 2≤sizeLine; decide)
  exact ltS_sound g₂ e1 h1 (Rep.stay (st₂.stay g.wp) _ _ r₁) (Heap.get?_push_size _ rfl) fun v d σ'' s'' a b e f=>hQ v d σ'' s'' a ((st₁.trans st₂).trans b) e f
end
section
variable {n:Nat} {A:Around} {t:Tb} {S:Nat→Spec}
set_option tactic.hygienic true in
mutual
theorem soundE:∀ (e:PE) (X:Exs) (c:Cx) (z:At n t S X c A) (names:List (Str×NameKind)) (vs:List Nat) (env:Env),EnvOk t.N.nm vs env→Nm env names→wf t names vs e=true→
    SndV c A t.N.nm vs env (vc S X e) (emb t.N e)∧SndT c A t.N.nm vs env (vc S X e) (emb t.N e)
  | .var i p,X,c,z,names,vs,env,eo,hn,hw=>by
    have hv:SndV c A t.N.nm vs env (.of fun ρ σ Φ=>match ρ.at i with | some d=>Φ d σ | Option.none=>False) (.Name (t.N.nm i) p):=by
      intro ρ σ Φ h
      simp only [VT.of] at h
      cases e:ρ.at i with
      | none=>rw [e] at h; exact h.elim
      | some d=>rw [e] at h; exact R_var eo e h
    exact ⟨hv,sndT_of hv fun _=>rfl⟩
  | .cint i p,X,c,z,names,vs,env,eo,hn,hw=>by
    have hv:SndV c A t.N.nm vs env (.of fun _ σ Φ=>Φ (.int i) σ) (.Constant (.int i) 0 p):=fun ρ σ Φ h=>R_int h
    exact ⟨hv,sndT_of hv fun _=>rfl⟩
  | .cnone p,X,c,z,names,vs,env,eo,hn,hw=>by
    have hv:SndV c A t.N.nm vs env (.of fun _ σ Φ=>Φ .none σ) (.Constant .none 0 p):=fun ρ σ Φ h=>R_none h
    exact ⟨hv,sndT_of hv fun _=>rfl⟩
  | .cbool b p,X,c,z,names,vs,env,eo,hn,hw=>by
    have hv:SndV c A t.N.nm vs env (.of fun _ σ Φ=>Φ (.bool b) σ) (.Constant (.bool b) 0 p):=fun ρ σ Φ h=>R_bool h
    exact ⟨hv,sndT_of hv fun _=>rfl⟩
  | .cstr x p,X,c,z,names,vs,env,eo,hn,hw=>by
    have hv:SndV c A t.N.nm vs env (.of fun _ σ Φ=>Φ (.str x) σ) (.Constant (.str x) 0 p):=fun ρ σ Φ h=>R_str h
    exact ⟨hv,sndT_of hv fun _=>rfl⟩
  | .bin op l r p,X,c,z,names,vs,env,eo,hn,hw=>by
    have hw:=and2 hw
    have hv:=L_bin (op:=op) (p:=p) (soundE l X c z names vs env eo hn hw.1).1 (soundE r X c z names vs env eo hn hw.2).1
    exact ⟨hv,sndT_of hv fun _=>rfl⟩
  | .neg e p,X,c,z,names,vs,env,eo,hn,hw=>by
    have hv:=L_neg (p:=p) (soundE e X c z names vs env eo hn hw).1
    exact ⟨hv,sndT_of hv fun _=>rfl⟩
  | .not e p,X,c,z,names,vs,env,eo,hn,hw=>by
    exact L_not (soundE e X c z names vs env eo hn hw).1 (soundE e X c z names vs env eo hn hw).2
  | .bop op es p,X,c,z,names,vs,env,eo,hn,hw=>by
    have hl:=soundL es X c z names vs env eo hn hw
    exact ⟨fun ρ σ Φ h=>L_bopV hl ρ σ Φ h,fun ρ σ Φ h=>L_bopT hl ρ σ Φ h⟩
  | .cmp op l r p,X,c,z,names,vs,env,eo,hn,hw=>by
    have hw:=and2 hw
    exact L_cmp (z.u) (emb_marks _ _ _) (soundE l X c z names vs env eo hn hw.1).1 (soundE r X c z names vs env eo hn hw.2).1
  | .cmp2 o₁ o₂ a b d p,X,c,z,names,vs,env,eo,hn,hw=>by
    have hw:=and3 hw
    exact L_cmp2 (z.u) (emb_marks _ _ _) (soundE a X c z names vs env eo hn hw.1.1).1 (soundE b X c z names vs env eo hn hw.1.2).1 (soundE d X c z names vs env eo hn hw.2).1
  | .call g gp args p,X,c,z,names,vs,env,eo,hn,hw=>by
    have hw:=and4 hw
    obtain ⟨hq,hg⟩:=and2 hw.1.1.1
    obtain ⟨h1,h2,h3⟩:=gOk_ok hg hn
    obtain ⟨f,hf,V⟩:=z.G.fn g (by simpa using hw.1.1.2)
    have hv:=L_call (gp:=gp) (p:=p) (z.q hq) z.F eo h1 h2 (by rw [z.G.glob g h3,hf]) V (by have:=hw.1.2; intro q; rw [q] at this; simp at this) (soundL args X c z names vs env eo hn hw.2)
    rw [z.x] at hv
    exact ⟨hv,sndT_of hv fun _=>rfl⟩
  | .bi b m g gp args p,X,c,z,names,vs,env,eo,hn,hw=>by
    have hw:=and4 hw
    obtain ⟨hq,hg⟩:=and2 hw.1.1.1
    obtain ⟨h1,h2,h3⟩:=gOk_ok hg hn
    have hv:=L_bi (m:=m) (gp:=gp) (p:=p) (b:=b) (z.q hq).1 eo h1 h2 (by rw [z.G.glob g h3]; congr 1; simpa using hw.1.1.2) (by have:=hw.1.2; intro q; rw [q] at this; simp at this) (soundL args X c z names vs env eo hn hw.2)
    exact ⟨hv,sndT_of hv fun _=>rfl⟩
  | .isi e ty g gp gt tp p,X,c,z,names,vs,env,eo,hn,hw=>by
    have hw:=and5 hw
    obtain ⟨h1,h2,h3⟩:=gOk_ok hw.1.1.1.1 hn
    obtain ⟨k1,k2,k3⟩:=gOk_ok hw.1.1.2 hn
    have hv:=L_isi (gp:=gp) (tp:=tp) (p:=p) (ty:=ty) eo h1 h2 (by rw [z.G.glob g h3]; congr 1; simpa using hw.1.1.1.2) k1 k2 (by rw [z.G.glob gt k3]; congr 1; simpa using hw.1.2) (soundE e X c z names vs env eo hn hw.2).1
    exact ⟨hv,sndT_of hv fun _=>rfl⟩
  | .isi2 e g gp g₁ p₁ g₂ p₂ k tp p,X,c,z,names,vs,env,eo,hn,hw=>by
    have hw:=and5 hw
    have l1:=and2 hw.1.1.2
    have l2:=and2 hw.1.2
    obtain ⟨h1,h2,h3⟩:=gOk_ok hw.1.1.1.1 hn
    obtain ⟨k1,k2,k3⟩:=gOk_ok l1.1 hn
    obtain ⟨m1,m2,m3⟩:=gOk_ok l2.1 hn
    have hv:=L_isi2 (gp:=gp) (p₁:=p₁) (p₂:=p₂) (k:=k) (tp:=tp) (p:=p) eo h1 h2 (by rw [z.G.glob g h3]; congr 1; simpa using hw.1.1.1.2) k1 k2 (by rw [z.G.glob g₁ k3]; congr 1; simpa using l1.2) m1 m2 (by rw [z.G.glob g₂ m3]; congr 1; simpa using l2.2) (soundE e X c z names vs env eo hn hw.2).1
    exact ⟨hv,sndT_of hv fun _=>rfl⟩
  | .isx i ip cs os g gp gt tp p,X,c,z,names,vs,env,eo,hn,hw=>by
    have hw5:=and5 hw
    obtain ⟨h1,h2,h3⟩:=gOk_ok hw5.1.1.1.1 hn
    obtain ⟨k1,k2,k3⟩:=gOk_ok hw5.1.1.2 hn
    have cv:t.cv=some i:=by simpa using hw5.2
    have hv:SndV c A t.N.nm vs env (.of fun _ σ Φ=>exS cs os X.cur fun t=>Φ (.bool t) σ) (.Call (.Name (t.N.gn g) gp) [.Name (t.N.nm i) ip,.Name (t.N.gn gt) tp] [] p):=by
      cases hX:X.cur with
      | none=>intro ρ σ Φ h; exact (show False from h).elim
      | some C=>exact L_isx eo h1 h2 (by rw [z.G.glob g h3]; congr 1; simpa using hw5.1.1.1.2) k1 k2 (z.G.glob gt k3) (by rw [z.cu,cv,hX]; rfl) (z.gx.isx (gt,cs,os) (by simpa using hw5.1.2))
    exact ⟨hv,sndT_of hv fun _=>rfl⟩
  | .intb e g gp p,X,c,z,names,vs,env,eo,hn,hw=>by
    have hw:=and3 hw
    obtain ⟨h1,h2,h3⟩:=gOk_ok hw.1.1 hn
    have hv:=L_intb (gp:=gp) (p:=p) eo h1 h2 (by rw [z.G.glob g h3]; congr 1; simpa using hw.1.2) (soundE e X c z names vs env eo hn hw.2).1
    exact ⟨hv,sndT_of hv fun _=>rfl⟩
  | .lset e g gp g' gp' p' p,X,c,z,names,vs,env,eo,hn,hw=>by
    have hw:=and5 hw
    obtain ⟨hq,hg⟩:=and2 hw.1.1.1.1
    obtain ⟨h1,h2,h3⟩:=gOk_ok hg hn
    obtain ⟨k1,k2,k3⟩:=gOk_ok hw.1.1.2 hn
    have hv:=L_lset (gp:=gp) (gp':=gp') (p':=p') (p:=p) (z.q hq).1 eo h1 h2 (by rw [z.G.glob g h3]; congr 1; simpa using hw.1.1.1.2) k1 k2 (by rw [z.G.glob g' k3]; congr 1; simpa using hw.1.2) (soundE e X c z names vs env eo hn hw.2).1
    exact ⟨hv,sndT_of hv fun _=>rfl⟩
  | .sub o i p,X,c,z,names,vs,env,eo,hn,hw=>by
    have hw:=and2 hw
    have hv:=L_sub (p:=p) (emb_sub t.N i) (soundE o X c z names vs env eo hn hw.1).1 (soundE i X c z names vs env eo hn hw.2).1
    exact ⟨hv,sndT_of hv fun _=>rfl⟩
  | .slc m o lo hi sp p,X,c,z,names,vs,env,eo,hn,hw=>by
    have hw:=and3 hw
    have hv:=L_slc (m:=m) (sp:=sp) (p:=p) (soundE o X c z names vs env eo hn hw.1.1).1 (soundO lo X c z names vs env eo hn hw.1.2) (soundO hi X c z names vs env eo hn hw.2)
    exact ⟨hv,sndT_of hv fun _=>rfl⟩
  | .list m es p,X,c,z,names,vs,env,eo,hn,hw=>by
    have hv:=L_list (m:=m) (p:=p) (soundL es X c z names vs env eo hn hw)
    exact ⟨hv,sndT_of hv fun _=>rfl⟩
  | .tup es k p,X,c,z,names,vs,env,eo,hn,hw=>by
    have hv:=L_tup (k:=k) (p:=p) (soundL es X c z names vs env eo hn hw)
    exact ⟨hv,sndT_of hv fun _=>rfl⟩
  | .mmd mx g gp e cp kp p,X,c,z,names,vs,env,eo,hn,hw=>by
    have hw:=and3 hw
    obtain ⟨hq,hg⟩:=and2 hw.1.1
    obtain ⟨h1,h2,h3⟩:=gOk_ok hg hn
    have hv:=L_mmd (mx:=mx) (gp:=gp) (cp:=cp) (kp:=kp) (p:=p) (z.q hq).1 eo h1 h2 (by rw [z.G.glob g h3]; congr 1; simpa using hw.1.2) (soundE e X c z names vs env eo hn hw.2).1
    exact ⟨hv,sndT_of hv fun _=>rfl⟩
  | .sset g gp g' gp' e p' p,X,c,z,names,vs,env,eo,hn,hw=>by
    have hw:=and5 hw
    obtain ⟨hq,hg⟩:=and2 hw.1.1.1.1
    obtain ⟨h1,h2,h3⟩:=gOk_ok hg hn
    obtain ⟨k1,k2,k3⟩:=gOk_ok hw.1.1.2 hn
    have hv:=L_sset (gp:=gp) (gp':=gp') (p':=p') (p:=p) (z.q hq).1 eo h1 h2 (by rw [z.G.glob g h3]; congr 1; simpa using hw.1.1.1.2) k1 k2 (by rw [z.G.glob g' k3]; congr 1; simpa using hw.1.2) (soundE e X c z names vs env eo hn hw.2).1
    exact ⟨hv,sndT_of hv fun _=>rfl⟩
  | .app o ap e p,X,c,z,names,vs,env,eo,hn,hw=>by
    have hw:=and4 hw
    have hv:=L_app (p:=p) hw.1.1.1 hw.1.1.2 (soundE o X c z names vs env eo hn hw.1.2).1 (soundE e X c z names vs env eo hn hw.2).1
    exact ⟨hv,sndT_of hv fun _=>rfl⟩
  | .gint g i gp,X,c,z,names,vs,env,eo,hn,hw=>by
    have hw:=and2 hw
    obtain ⟨h1,h2,h3⟩:=gOk_ok hw.1 hn
    have hv:SndV c A t.N.nm vs env (.of fun _ σ Φ=>Φ (.int i) σ) (.Name (t.N.gn g) gp):=by
      have h4:=hw.2
      split at h4
      · rename_i j tk hj
        have:j=i:=by simpa using h4
        subst this
        exact L_gint eo h1 h2 (by rw [z.G.glob g h3,hj])
      · cases h4
    exact ⟨hv,sndT_of hv fun _=>rfl⟩
  | .attr C o name p,X,c,z,names,vs,env,eo,hn,hw=>by
    have hw:=and3 hw
    have hv:=L_attr (p:=p) hw.1.1 (z.G.attr (C,name) (by simpa using hw.1.2)) (soundE o X c z names vs env eo hn hw.2).1
    exact ⟨hv,sndT_of hv fun _=>rfl⟩
  | .meth C g o name ap args p,X,c,z,names,vs,env,eo,hn,hw=>by
    have hw:=and6 hw
    obtain ⟨hq,hline⟩:=and2 hw.1.1.1.1.1
    obtain ⟨f,hf,V⟩:=z.G.meth (C,name,g) (by simpa using hw.1.1.1.2)
    have hv:=L_meth (z.q hq) z.F hline hw.1.1.1.1.2 (Nat.le_of_ble_eq_true hw.1.1.2) hf V (soundE o X c z names vs env eo hn hw.1.2).1 (soundL args X c z names vs env eo hn hw.2)
    rw [z.x] at hv
    exact ⟨hv,sndT_of hv fun _=>rfl⟩
  | .new C gi g gp args p,X,c,z,names,vs,env,eo,hn,hw=>by
    have hw:=and4 hw
    obtain ⟨hq,hg⟩:=and2 hw.1.1.1
    obtain ⟨h1,h2,h3⟩:=gOk_ok hg hn
    obtain ⟨f,m,hm,hf,V⟩:=z.G.new (C,gi) (by simpa using hw.1.2)
    have hv:=L_new (gp:=gp) (p:=p) ((z.q hq).le hm) z.F eo h1 h2 (by rw [z.G.glob g h3]; congr 1; simpa using hw.1.1.2) hf V (soundL args X c z names vs env eo hn hw.2)
    rw [z.x] at hv
    exact ⟨hv,sndT_of hv fun _=>rfl⟩
  | .lm k o ap args p,X,c,z,names,vs,env,eo,hn,hw=>by
    have hw:=and5 hw
    have hv:=L_lm (k:=k) hw.1.1.1.1 hw.1.1.1.2 (Nat.le_of_ble_eq_true hw.1.1.2) (soundE o X c z names vs env eo hn hw.1.2).1 (soundL args X c z names vs env eo hn hw.2)
    exact ⟨hv,sndT_of hv fun _=>rfl⟩
  | .dct p,X,c,z,names,vs,env,eo,hn,hw=>by
    have hv:SndV c A t.N.nm vs env (.of fun _ σ Φ=>∀ a,freshIn σ a→Φ (.obj a) (σ.set a (.mdict []))) (.Dict [] [] p):=L_dct
    exact ⟨hv,sndT_of hv fun _=>rfl⟩
  | .subd o i p,X,c,z,names,vs,env,eo,hn,hw=>by
    have hw:=and2 hw
    have hv:=L_subd (p:=p) (emb_sub t.N i) (soundE o X c z names vs env eo hn hw.1).1 (soundE i X c z names vs env eo hn hw.2).1
    exact ⟨hv,sndT_of hv fun _=>rfl⟩
  | .comp m elt x xp it ifs sc fr p,X,c,z,names,vs,env,eo,hn,hw=>by
    have hw:=and4 hw
    obtain ⟨hq,hwi⟩:=and2 hw.1.1.1
    have co:=compChk_ok hw.1.1.2 hn
    have hv:SndV c A t.N.nm vs env (.of fun ρ σ Φ=>vcI S X it ρ σ fun d ds σ₁=>ds.length≤small∧
      compS (fun e σ' K=>ifsT (vcL S noX ifs) ((ρ.only fr).put x e) σ' fun b σ''=>(b=true→(vc S noX elt).v ((ρ.only fr).put x e) σ'' fun r σ₃=>K (some r) σ₃)∧(b=false→K Option.none σ'')) (keepS d ds) ds σ₁ []
        fun out σ₂=>mkS m out σ₂ Φ) (.ListComp (emb t.N elt) [⟨.Name (t.N.nm x) xp,embI t.N it,embL t.N ifs,0⟩] sc p):=fun ρ σ Φ h=>
      R_comp (embI_fold _ _ _) co eo (soundI it X c z names vs env eo hn hwi) (fun C E₁ σa Pa sa=>(soundE elt noX _ (z.block hq E₁ _ σa Pa sa) sc.names (x::fr) _ (co.envOk eo C) (nm_block co _ C) hw.1.2).1) (fun C E₁ σa Pa sa=>soundL ifs noX _ (z.block hq E₁ _ σa Pa sa) sc.names (x::fr) _ (co.envOk eo C) (nm_block co _ C) hw.2) h
    exact ⟨hv,sndT_of hv fun _=>rfl⟩
theorem soundL:∀ (es:List PE) (X:Exs) (c:Cx) (z:At n t S X c A) (names:List (Str×NameKind)) (vs:List Nat) (env:Env),EnvOk t.N.nm vs env→Nm env names→wfL t names vs es=true→SndL c A t.N.nm vs env (vcL S X es) (embL t.N es)
  | [],X,c,z,names,vs,env,eo,hn,hw => .nil
  | e::r,X,c,z,names,vs,env,eo,hn,hw=>by
    have hw:=and2 hw
    exact .cons (soundE e X c z names vs env eo hn hw.1).1 (soundE e X c z names vs env eo hn hw.1).2 (soundL r X c z names vs env eo hn hw.2)
theorem soundO:∀ (o:Option PE) (X:Exs) (c:Cx) (z:At n t S X c A) (names:List (Str×NameKind)) (vs:List Nat) (env:Env),EnvOk t.N.nm vs env→Nm env names→wfO t names vs o=true→SndO c A t.N.nm vs env (vcO S X o) (embO t.N o)
  | Option.none,X,c,z,names,vs,env,eo,hn,hw=>by
    intro ρ σ Φ h P s g Q hQ
    show wpAny c.M A (evalPart Option.none env) Q c.E s
    rw [evalPart_none]
    exact wpAny_pure (hQ _ _ σ s h (Step.refl _ _ _ _) g.st (.inl ⟨rfl,rfl⟩))
  | some e,X,c,z,names,vs,env,eo,hn,hw=>by
    intro ρ σ Φ h P s g Q hQ
    show wpAny c.M A (evalPart (some (emb t.N e)) env) Q c.E s
    rw [evalPart_some]
    exact (soundE e X c z names vs env eo hn hw).1 ρ σ _ h P s g _ fun v d σ' s' hd st ok hr=>hQ v (some d) σ' s' hd st ok (.inr ⟨d,rfl,hr⟩)
theorem soundI:∀ (it:IT) (X:Exs) (c:Cx) (z:At n t S X c A) (names:List (Str×NameKind)) (vs:List Nat) (env:Env),EnvOk t.N.nm vs env→Nm env names→wfI t names vs it=true→SndI c A t.N.nm vs env (vcI S X it) (embI t.N it)
  | .of e,X,c,z,names,vs,env,eo,hn,hw=>by
    have hw:=and2 hw
    have:=L_of (z.q hw.1).1 (soundE e X c z names vs env eo hn hw.2).1
    intro ρ σ Φ h
    exact this ρ σ Φ h
  | .range g gp e p,X,c,z,names,vs,env,eo,hn,hw=>by
    have hw:=and3 hw
    obtain ⟨hq,hg⟩:=and2 hw.1.1
    obtain ⟨h1,h2,h3⟩:=gOk_ok hg hn
    have:=L_range (gp:=gp) (p:=p) (z.q hq).1 eo h1 h2 (by rw [z.G.glob g h3]; congr 1; simpa using hw.1.2) (soundE e X c z names vs env eo hn hw.2).1
    intro ρ σ Φ h
    exact this ρ σ Φ h
  | .range2 g gp a b p,X,c,z,names,vs,env,eo,hn,hw=>by
    have hw:=and4 hw
    obtain ⟨hq,hg⟩:=and2 hw.1.1.1
    obtain ⟨h1,h2,h3⟩:=gOk_ok hg hn
    have:=L_range2 (gp:=gp) (p:=p) (z.q hq).1 eo h1 h2 (by rw [z.G.glob g h3]; congr 1; simpa using hw.1.1.2) (soundE a X c z names vs env eo hn hw.1.2).1 (soundE b X c z names vs env eo hn hw.2).1
    intro ρ σ Φ h
    exact this ρ σ Φ h
end
end
theorem swaps_no (N:Nms) (e:PE) (tg:Expr) (l:Nat) (env:Env) (h:∀ m elt x xp it ifs sc fr p,e ≠ .comp m elt x xp it ifs sc fr p):swapsWith (emb N e) (some tg) l env=pure false:=by
  cases e <;> first | rfl | exact absurd rfl (h _ _ _ _ _ _ _ _ _)
theorem swaps_at (N:Nms) (e:PE) (b:Expr) (n:Str) (q:Pos) (l:Nat) (env:Env):swapsWith (emb N e) (some (.Attribute b n q)) l env=pure false:=by cases e <;> rfl
theorem swaps_no' (N:Nms) (e:PE) (tg:Expr) (l:Nat) (env:Env) (h:isComp e=false):swapsWith (emb N e) (some tg) l env=pure false:=
  swaps_no N e tg l env fun m elt x xp it ifs sc fr p q=>by subst q; cases h
section
variable {c:Cx} {A:Around} {nm:Nat→Str} {vs:List Nat} {env:Env}
set_option tactic.hygienic true in
theorem R_assign {x:Nat} {xp p:Pos} {value:Expr} {ρ:PEnv} {σ:Store} {Φ:Res→Prop} (eo:EnvOk nm vs env) (hx:x∈vs) (hff:∀ a,FrA env a→c.F₀ a) (hcx:∀ C,c.cur≠some (x,C)) (hs:swapsWith value (some (.Name (nm x) xp)) p.line env=pure false)
    (h:WPv c A nm vs env ρ σ (eval value env) fun d σ'=>Φ (.next (ρ.put x d) σ')):WPs c A nm vs env ρ σ (exec (.Assign [.Name (nm x) xp] value p) env) Φ:=by
  intro P s g Q hQ
  refine wpAny_Assign_Name (h P s g _ fun v d σ₁ s₁ hd st₁ ok₁ r₁=>?_) hs
  refine store_sound eo hx hff hcx (g.next st₁ ok₁) r₁ fun s₂ st₂ g₂=>?_
  exact hQ .next s₂ _ hd ((st₁.weak fun _ h=>h.elim).trans st₂) ⟨rfl,g₂⟩
theorem Cx.back (hfe:Front c.l env) (hw0:∀ a,WL c.l a→c.P₀ a):∀ e C σ' s',c.X C σ'→Step (WL c.l) c.F₀ c.σ₀ σ' c.s₀ s'→StoreOk σ' c.P₀ s'.heap→Frs s'.heap c.l→Held c.l c.s₀.heap e C s'.heap→cameBackBy c.M A env c.E (.ref e) s':=by
  intro e C σ' s' hX st ok fr held
  obtain ⟨r,L,hl,hL⟩:=hfe
  refine came_any (h₀:=c.s₀.heap) (C:=C) hL (by rw [← hl]; exact fr) (by rw [← hl]; exact held) fun h' held' kp=>?_
  rw [← hl] at held' kp
  exact c.exc e C σ' _ hX (kp_step st kp) (kp_store ok kp hw0) (kp_frs fr kp) held'.fly
set_option tactic.hygienic true in
theorem R_while {test:Expr} {body:List Stmt} {p:Pos} {vt:VT} {bt:PEnv→Store→(Res→Prop)→Prop} (hF:A.frames=some c.l) (hfe:Front c.l env) (hw0:∀ a,WL c.l a→c.P₀ a) (ht:∀ R hRE,SndT (c.loop A env R hF hfe hRE hw0) A nm vs env vt test) (hb:∀ R hRE ρ σ Φ,bt ρ σ Φ→WPs (c.loop A env R hF hfe hRE hw0) A nm vs env ρ σ (execs body env) Φ) {ρ:PEnv} {σ:Store} {Φ:Res→Prop}
    {J:Nat→PEnv→Store→Prop} {n:Nat} (h0:J n ρ σ)
    (h:∀ n ρ σ,J n ρ σ→vt.t ρ σ fun c σ'=>(c=true→bt ρ σ' fun r=>match r with
        | .next ρ'' σ''=>∃ m,m<n∧J m ρ'' σ''
        | .cont ρ'' σ''=>∃ m,m<n∧J m ρ'' σ''
        | .brk ρ'' σ''=>Φ (.next ρ'' σ'')
        | .ret d σ''=>Φ (.ret d σ''))∧(c=false→Φ (.next ρ σ'))):WPs c A nm vs env ρ σ (exec (.While test body [] p) env) Φ:=by
  intro P s g Q hQ
  refine wpAny_While ?_
  refine codeAny_whileLoop (fun k s'=>∃ ρ' σ',J k ρ' σ'∧Good c nm vs env ρ' σ' P s'∧Step c.W (FrA env) σ σ' s s') ?_ n ⟨ρ,σ,h0,g,Step.refl _ _ _ _⟩
  rintro k s' ⟨ρ',σ',hJ,g',st'⟩
  refine ht _ (Cx.back hfe hw0) ρ' σ' _ (h k ρ' σ' hJ) P s' g'.toLoop _ fun b σ₁ s₁ hbv st₁ ok₁=>?_
  have g₁:=g'.next st₁ ok₁
  have st01:=st'.trans (st₁.weak (F':=FrA env) fun _ h=>h.elim)
  cases b with
  | false=>
    simp only [Bool.false_eq_true,if_false]
    exact wpAny_execs_nil (hQ .next s₁ _ (hbv.2 rfl) st01 ⟨rfl,g₁⟩)
  | true=>
    simp only [if_true]
    refine hb _ (Cx.back hfe hw0) ρ' σ₁ _ (hbv.1 rfl) P s₁ g₁.toLoop _ fun f s₂ r hr st₂ ro=>?_
    replace ro:=ro.ofLoop
    have st02:=st01.trans st₂
    cases r with
    | next ρ'' σ''=>
      obtain ⟨rfl,g₂⟩:=ro
      obtain ⟨m,hm,hJm⟩:=hr
      exact ⟨m,hm,ρ'',σ'',hJm,g₂,st02⟩
    | cont ρ'' σ''=>
      obtain ⟨rfl,g₂⟩:=ro
      obtain ⟨m,hm,hJm⟩:=hr
      exact ⟨m,hm,ρ'',σ'',hJm,g₂,st02⟩
    | brk ρ'' σ''=>
      obtain ⟨rfl,g₂⟩:=ro
      exact hQ .next s₂ _ hr st02 ⟨rfl,g₂⟩
    | ret d σ''=>
      obtain ⟨u,rfl,h1,h2⟩:=ro
      exact hQ (.ret u) s₂ _ hr st02 ⟨u,rfl,h1,h2⟩
set_option tactic.hygienic true in
theorem R_for {x:Nat} {xp p:Pos} {iter:Expr} {body:List Stmt} {tr:PEnv→Store→(D→List D→Store→Prop)→Prop} {bt:PEnv→Store→(Res→Prop)→Prop} (hs:∀ v,foldedSetIterable iter env v=pure v) (eo:EnvOk nm vs env) (hx:x∈vs)
    (hff:∀ a,FrA env a→c.F₀ a) (hcu:c.cur=none) (hF:A.frames=some c.l) (hfe:Front c.l env) (hw0:∀ a,WL c.l a→c.P₀ a) (hi:SndI c A nm vs env tr iter) (hb:∀ R hRE ρ σ Φ,bt ρ σ Φ→WPs (c.loop A env R hF hfe hRE hw0) A nm vs env ρ σ (execs body env) Φ) {ρ:PEnv} {σ:Store} {Φ:Res→Prop}
    (h:tr ρ σ fun d ds σ₁=>forS (fun e ρ' σ' Ψ=>bt (ρ'.put x e) σ' Ψ) (keepS d ds) ds ρ σ₁ Φ):WPs c A nm vs env ρ σ (exec (.For (.Name (nm x) xp) iter body [] p) env) Φ:=by
  intro P s g Q hQ
  refine wpAny_For ?_ hs
  refine hi ρ σ _ h P s g _ fun xv d ds σ₁ s₁ hΦ st₁ ok₁ itv=>?_
  obtain ⟨v,hr,hk,hit⟩:=itv
  have g₁:=g.next st₁ ok₁
  refine hit _ _ fun I ok It s₂ hI kp T it hok=>?_
  have st₂:Step c.W (FrA env) σ₁ σ₁ s₁ s₂:=Step.of_keeps kp
  have g₂:Good c nm vs env ρ σ₁ P s₂:=g₁.next (Step.of_keeps kp) (g₁.st.keeps (keeps_heap kp))
  refine for_sound T (fun σ' s' a b e=>hok σ' P s' a b e) eo hx hff hcu (hRE:=Cx.back hfe hw0) (hstep:=fun e ρ' σ' Ψ hb'=>hb _ (Cx.back hfe hw0) _ _ _ hb') g₁ hI st₂ g₂ it (hr.keeps (keeps_heap kp)) hk hΦ fun f s' r hr' st ro=>?_
  exact hQ f s' r hr' ((st₁.weak fun _ h=>h.elim).trans st) ro
end
structure AtS (n:Nat) (t:Tb) (S:Nat→Spec) (X:Exs) (c:Cx) (A:Around) (env:Env):Prop extends At n t S X c A where
  st:t.st=true→∀ a,FrA env a→c.F₀ a
  fr:Front c.l env
  w0:∀ a,WL c.l a→c.P₀ a
theorem AtS.loop {n t S X c A env} (z:AtS n t S X c A env) (R hRE):AtS n t S X (c.loop A env R z.F z.fr hRE z.w0) A env:=⟨⟨z.G,z.gx,z.q,z.qc,z.u,z.F,z.x,z.cu⟩,z.st,z.fr,z.w0⟩
theorem GT.in {c:Bx} {n:Nat} {t:Tb} {S:Nat→Spec} (G:GT c n t S) (q st:Bool) (cv:Option Nat):GT c n { t with q:=q,st:=st,cv:=cv } S:=⟨G.glob,G.fn,G.attr,G.set,G.meth,G.new⟩
theorem GX.in {c:Bx} {t:Tb} (G:GX c t) (q st:Bool) (cv:Option Nat):GX c { t with q:=q,st:=st,cv:=cv }:=⟨G.exc,G.sub,G.isx⟩
theorem AtS.tri {n t S X c A env} (z:AtS n t S X c A env) (hq:t.q=true) {E' X' σ s P hE} (hw:∀ a,WL c.l a→P a):AtS n { t with st:=false } S ⟨X',Option.none⟩ (c.tri E' X' σ s P hE) A env:=
  ⟨⟨z.G.in _ _ _,z.gx.in _ _ _,z.q,z.qc,z.u,z.F,rfl,by show (Option.none:Option (Nat×Addr))=t.cv.bind _; rw [z.qc hq]; rfl⟩,fun h=>(by cases h),z.fr,hw⟩
theorem At.hand {n t S X c A} (z:At n t S X c A) (E':Value→Shared→Prop) (cv:Option Nat) (C:Option Addr) (e:Value):At n { t with q:=false,cv:=cv } S ⟨fun _ _=>False,C⟩ (c.hand E' (cv.bind fun i=>C.map fun C=>(i,C))) (A.mark (some e)):=
  ⟨z.G.in _ _ _,z.gx.in _ _ _,fun h=>(by cases h),fun h=>(by cases h),z.u,z.F,rfl,rfl⟩
section
variable {n:Nat} {S:Nat→Spec}
theorem sound_assign {t:Tb} {A:Around} {X:Exs} {c:Cx} (x:Nat) (xp:Pos) (e:PE) (p:Pos) (names:List (Str×NameKind)) (vs:List Nat) (env:Env) (z:AtS n t S X c A env) (eo:EnvOk t.N.nm vs env) (hn:Nm env names) (hw:wfS t names vs (.assign x xp e p)=true) (ρ:PEnv) (σ:Store) (Φ:Res→Prop)
    (h:vcS S X (.assign x xp e p) ρ σ Φ):WPs c A t.N.nm vs env ρ σ (exec (embS t.N (.assign x xp e p)) env) Φ:=by
  have hw:=and2 hw
  have hw1:=and3 hw.1
  have hx:x∈vs:=by simpa using hw1.1.2
  have hff:=z.st hw1.1.1
  have hcx:∀ C,c.cur≠some (x,C):=fun C q=>by
    rw [z.cu] at q
    have hne:t.cv≠some x:=by simpa using hw1.2
    cases e1:t.cv with
    | none=>rw [e1] at q; cases q
    | some i=>
      rw [e1] at q
      cases e2:X.cur with
      | none=>rw [e2] at q; cases q
      | some C'=>rw [e2] at q; cases q; exact hne e1
  by_cases hc:∃ m elt y yp it ifs sc fr q,e = .comp m elt y yp it ifs sc fr q
  · obtain ⟨m,elt,y,yp,it,ifs,sc,fr,q,rfl⟩:=hc
    have hw2:=hw.2
    have hsnd:=(soundE (.comp m elt y yp it ifs sc fr q) X c z.toAt names vs env eo hn hw2).1
    have hw2:=and4 hw2
    obtain ⟨hq,hwi⟩:=and2 hw2.1.1.1
    have co:=compChk_ok hw2.1.1.2 hn
    obtain ⟨b,hb⟩:∃ b,swapsWith (.ListComp (emb t.N elt) [⟨.Name (t.N.nm y) yp,embI t.N it,embL t.N ifs,0⟩] sc q) (some (.Name (t.N.nm x) xp)) p.line env=pure b:=⟨_,rfl⟩
    cases b with
    | true=>
      exact R_assign_comp (embI_fold _ _ _) hb hx hff (z.cur hq) co eo (soundI it X c z.toAt names vs env eo hn hwi) (fun C E₁ σa Pa sa=>(soundE elt noX _ (z.block hq E₁ _ σa Pa sa) sc.names (y::fr) _ (co.envOk eo C) (nm_block co _ C) hw2.1.2).1) (fun C E₁ σa Pa sa=>soundL ifs noX _ (z.block hq E₁ _ σa Pa sa) sc.names (y::fr) _ (co.envOk eo C) (nm_block co _ C) hw2.2) h
    | false=>exact R_assign eo hx hff hcx hb (hsnd ρ σ _ h)
  · exact R_assign eo hx hff hcx (swaps_no t.N e _ _ env fun m elt y yp it ifs sc fr q e'=>hc ⟨m,elt,y,yp,it,ifs,sc,fr,q,e'⟩) ((soundE e X c z.toAt names vs env eo hn hw.2).1 ρ σ _ h)
set_option tactic.hygienic true in
mutual
theorem soundS:∀ (st:PS) (t:Tb) (A:Around) (X:Exs) (c:Cx) (names:List (Str×NameKind)) (vs:List Nat) (env:Env) (z:AtS n t S X c A env),EnvOk t.N.nm vs env→Nm env names→wfS t names vs st=true→∀ ρ σ Φ,vcS S X st ρ σ Φ→WPs c A t.N.nm vs env ρ σ (exec (embS t.N st) env) Φ
  | .assign x xp e p,t,A,X,c,names,vs,env,z,eo,hn,hw,ρ,σ,Φ,h=>sound_assign x xp e p names vs env z eo hn hw ρ σ Φ h
  | .expr e p,t,A,X,c,names,vs,env,z,eo,hn,hw,ρ,σ,Φ,h=>by
    have hw:=and2 hw
    intro P s g Q hQ
    refine wpAny_Expr_any ((soundE e X c z.toAt names vs env eo hn hw.2).1 ρ σ _ h P s g _ fun v d σ' s' hd st ok hr=>?_) (by unfold interactive; rw [eo.kind]; rfl) ?_
    · exact hQ .next s' _ hd (st.weak fun _ h=>h.elim) ⟨rfl,g.next st ok⟩
    · have:=hw.1
      cases e <;> first | rfl | cases this
  | .ite e b o p,t,A,X,c,names,vs,env,z,eo,hn,hw,ρ,σ,Φ,h=>by
    have hw:=and3 hw
    intro P s g Q hQ
    refine wpAny_If ((soundE e X c z.toAt names vs env eo hn hw.1.1).2 ρ σ _ h P s g _ fun d σ₁ s₁ hd st₁ ok₁=>?_)
    have g₁:=g.next st₁ ok₁
    have k:∀ f s' r,Φ r→Step c.W (FrA env) σ₁ r.sto s₁ s'→ResOk c t.N.nm vs env P r f s'→Q f s':=fun f s' r hr st ro=>hQ f s' r hr ((st₁.weak fun _ h=>h.elim).trans st) ro
    cases d with
    | true=>simp only [if_true]; exact soundSs b t A X c names vs env z eo hn hw.1.2 ρ σ₁ Φ (hd.1 rfl) P s₁ g₁ Q k
    | false=>simp only [Bool.false_eq_true,if_false]; exact soundSs o t A X c names vs env z eo hn hw.2 ρ σ₁ Φ (hd.2 rfl) P s₁ g₁ Q k
  | .loop x xp it b p,t,A,X,c,names,vs,env,z,eo,hn,hw,ρ,σ,Φ,h=>by
    have hw:=and3 hw
    have hw1:=and3 hw.1.1
    exact R_for (embI_fold _ _ _) eo (by simpa using hw1.2) (z.st hw1.1.2) (z.cur hw1.1.1) z.F z.fr z.w0 (soundI it X c z.toAt names vs env eo hn hw.1.2) (fun R hRE ρ' σ' Φ' h'=>soundSs b t A X _ names vs env (z.loop R hRE) eo hn hw.2 ρ' σ' Φ' h') h
  | .while e b p,t,A,X,c,names,vs,env,z,eo,hn,hw,ρ,σ,Φ,h=>by
    have hw:=and2 hw
    have hw1:=and2 hw.1
    obtain ⟨J,k,h0,h1⟩:=h
    exact R_while z.F z.fr z.w0 (fun R hRE=>(soundE e X _ (z.loop R hRE).toAt names vs env eo hn hw1.2).2) (fun R hRE ρ' σ' Φ' h'=>soundSs b t A X _ names vs env (z.loop R hRE) eo hn hw.2 ρ' σ' Φ' h') h0 h1
  | .ret e p,t,A,X,c,names,vs,env,z,eo,hn,hw,ρ,σ,Φ,h=>by
    intro P s g Q hQ
    exact wpAny_Return_some ((soundE e X c z.toAt names vs env eo hn hw).1 ρ σ _ h P s g _ fun v d σ' s' hd st ok hr=>hQ (.ret v) s' _ hd (st.weak fun _ h=>h.elim) ⟨v,rfl,ok,hr,(g.next st ok).ns⟩)
  | .sattr C o name ap e p,t,A,X,c,names,vs,env,z,eo,hn,hw,ρ,σ,Φ,h=>by
    have hw:=and4 hw
    exact R_sattr (fun l b n q=>swaps_at t.N e b n q l env) (z.G.set (C,name) (by simpa using hw.1.1.2)) (soundE o X c z.toAt names vs env eo hn hw.1.2).1 (soundE e X c z.toAt names vs env eo hn hw.2).1 h
  | .ssub o i sp e p,t,A,X,c,names,vs,env,z,eo,hn,hw,ρ,σ,Φ,h=>by
    have hw:=and4 hw
    exact R_ssub (fun l tg=>swaps_no' t.N e tg l env (by simpa using hw.1.1.1)) (soundE o X c z.toAt names vs env eo hn hw.1.1.2).1 (soundE i X c z.toAt names vs env eo hn hw.1.2).1 (soundE e X c z.toAt names vs env eo hn hw.2).1 h
  | .raise C g gp m mp cp p,t,A,X,c,names,vs,env,z,eo,hn,hw,ρ,σ,Φ,h=>by
    have hw:=and2 hw
    obtain ⟨hq,hg⟩:=and2 hw.1
    obtain ⟨h1,h2,h3⟩:=gOk_ok hg hn
    obtain ⟨hv,bm,bmB,n1,n2,O⟩:=z.gx.exc (g,C) (by simpa using hw.2)
    exact R_raise (z.q hq).1 eo h1 h2 (by rw [z.G.glob g h3,hv]) O (by rw [z.x]; exact h)
  | .try b hs p,t,A,X,c,names,vs,env,z,eo,hn,hw,ρ,σ,Φ,h=>by
    have hw:=and4 hw
    have hH:=soundHs hs t A X c names vs env z hw.1.1.1 eo hn hw.2 ρ Φ
    cases hs with
    | nil=>exact absurd hw.1.1.2 (by simp)
    | cons hd r=>
      cases hd with
      | mk cs os g gp b' p'=>exact R_try (z.cur hw.1.1.1) z.F z.fr (fun E' s P hE hwP=>soundSs b { t with st:=false } A ⟨_,Option.none⟩ _ names vs env (z.tri hw.1.1.1 hwP) eo hn hw.1.2 ρ σ Φ h) hH
      | as cs os g gp x b' p'=>exact R_try (z.cur hw.1.1.1) z.F z.fr (fun E' s P hE hwP=>soundSs b { t with st:=false } A ⟨_,Option.none⟩ _ names vs env (z.tri hw.1.1.1 hwP) eo hn hw.1.2 ρ σ Φ h) hH
theorem soundHs:∀ (hs:List HD) (t:Tb) (A:Around) (X:Exs) (c:Cx) (names:List (Str×NameKind)) (vs:List Nat) (env:Env) (z:AtS n t S X c A env),t.q=true→EnvOk t.N.nm vs env→Nm env names→wfHs t names vs hs=true→∀ ρ Φ,SndH c A t.N.nm vs env ρ Φ (embHs t.N hs) (vcHs S X hs ρ Φ)
  | [],t,A,X,c,names,vs,env,z,hq,eo,hn,hw,ρ,Φ=>H_nil
  | .mk cs os g gp b p::r,t,A,X,c,names,vs,env,z,hq,eo,hn,hw,ρ,Φ=>by
    have hw:=and5 hw
    obtain ⟨h1,h2,h3⟩:=gOk_ok hw.1.1.1.1 hn
    have sb:=z.gx.sub (g,cs,os) (by simpa using hw.1.1.1.2)
    have hr:=soundHs r t A X c names vs env z hq eo hn hw.2 ρ Φ
    have hb:=soundSs b { t with q:=false,cv:=Option.none }
    cases b with
    | nil=>exact absurd hw.1.1.2 (by simp)
    | cons b₀ bs=>exact H_mk (tb:=fun C σ=>vcSs S noX (b₀::bs) ρ σ Φ) (z.cur hq) eo h1 h2 (z.G.glob g h3) sb.1 sb.2 (fun e C E' σ hΦ=>hb (A.mark (some (.ref e))) noX (c.hand E' Option.none) names vs env ⟨z.hand E' Option.none Option.none _,z.st,z.fr,z.w0⟩ eo hn hw.1.2 ρ σ Φ hΦ) hr
  | .as cs os g gp x b p::r,t,A,X,c,names,vs,env,z,hq,eo,hn,hw,ρ,Φ=>by
    have hw7:=and2 hw
    have hw6:=and2 hw7.1
    have hw5:=and6 hw6.1
    obtain ⟨h1,h2,h3⟩:=gOk_ok hw5.1.1.1.1.1 hn
    have sb:=z.gx.sub (g,cs,os) (by simpa using hw5.1.1.1.1.2)
    have hr:=soundHs r t A X c names vs env z hq eo hn hw7.2 ρ Φ
    have hb:=soundSs b { t with q:=false,cv:=some x }
    cases b with
    | nil=>exact absurd hw5.2 (by simp)
    | cons b₀ bs=>exact H_as (tb:=fun C σ=>vcSs S ⟨fun _ _=>False,some C⟩ (b₀::bs) ρ σ (retO Φ)) (z.cur hq) (z.st hw5.1.2) eo (by simpa using hw5.1.1.1.2) (hn.loc _ (by simpa using hw5.1.1.2)) h1 h2 (z.G.glob g h3) sb.1 sb.2 (fun a C E' σ hΨ=>hb (A.mark (some (.ref a))) ⟨fun _ _=>False,some C⟩ (c.hand E' (some (x,C))) names vs env ⟨z.hand E' (some x) (some C) _,z.st,z.fr,z.w0⟩ eo hn hw6.2 ρ σ (retO Φ) hΨ) hr
theorem soundSs:∀ (ss:List PS) (t:Tb) (A:Around) (X:Exs) (c:Cx) (names:List (Str×NameKind)) (vs:List Nat) (env:Env) (z:AtS n t S X c A env),EnvOk t.N.nm vs env→Nm env names→wfSs t names vs ss=true→∀ ρ σ Φ,vcSs S X ss ρ σ Φ→WPs c A t.N.nm vs env ρ σ (execs (embSs t.N ss) env) Φ
  | [],t,A,X,c,names,vs,env,z,eo,hn,hw,ρ,σ,Φ,h=>by
    intro P s g Q hQ
    exact wpAny_execs_nil (hQ .next s _ h (Step.refl _ _ _ _) ⟨rfl,g⟩)
  | st::r,t,A,X,c,names,vs,env,z,eo,hn,hw,ρ,σ,Φ,h=>by
    have hw:=and2 hw
    intro P s g Q hQ
    refine wpAny_execs_cons (soundS st t A X c names vs env z eo hn hw.1 ρ σ _ h P s g _ fun f s₁ res hres st₁ ro=>?_)
    cases res with
    | next ρ' σ'=>
      obtain ⟨rfl,g₁⟩:=ro
      exact soundSs r t A X c names vs env z eo hn hw.2 ρ' σ' Φ hres P s₁ g₁ Q fun f s' r' hr st ro=>hQ f s' r' hr (st₁.trans st) ro
    | ret d σ'=>
      obtain ⟨u,rfl,h1,h2⟩:=ro
      exact hQ (.ret u) s₁ _ hres st₁ ⟨u,rfl,h1,h2⟩
    | brk ρ' σ'=>
      obtain ⟨rfl,g₁⟩:=ro
      exact hQ .brk s₁ _ hres st₁ ⟨rfl,g₁⟩
    | cont ρ' σ'=>
      obtain ⟨rfl,g₁⟩:=ro
      exact hQ .cont s₁ _ hres st₁ ⟨rfl,g₁⟩
end
end
theorem WL.cons {env:Env} {l:List Env} {a:Addr}:WL (env::l) a ↔ env.frame=some a∨WL l a:=by
  unfold WL
  constructor
  · rintro ⟨e,he,hf⟩
    rcases List.mem_cons.mp he with rfl | he
    · exact .inl hf
    · exact .inr ⟨e,he,hf⟩
  · rintro (hf | ⟨e,he,hf⟩)
    · exact ⟨env,List.mem_cons_self,hf⟩
    · exact ⟨e,List.mem_cons_of_mem _ he,hf⟩
theorem Step.leave {F:Addr→Prop} {env:Env} {l:List Env} {σ σ':Store} {s s₁ s':Shared} (k:Keeps s s₁) (x:Step (WL (env::l)) F σ σ' s₁ s') (hf:∀ a,F a→s.heap.get? a=Option.none) (hl:∀ a,env.frame=some a→s.heap.get? a=Option.none):Step (WL l) noF σ σ' s s':=by
  obtain ⟨h₁,t₁,rfl,hk⟩:=k
  refine ⟨?_,fun a o e hd _ hw=>x.keep a o (hk a o e) hd (fun q=>by rw [hf a q] at e; cases e) (fun q=>?_),fun a o e hw hd _=>x.slot a o (hk a o e) (WL.cons.mpr (.inr hw)) hd (fun q=>by rw [hf a q] at e; cases e),fun a o e=>x.alive a o (hk a o e),fun a ha=>(x.new a ha).imp id fun e=>?_⟩
  · obtain ⟨h₂,t₂,rfl⟩:=x.same
    exact ⟨h₂,t₂,rfl⟩
  · rcases WL.cons.mp q with q | q
    · rw [hl a q] at e; cases e
    · exact hw q
  · cases q:s.heap.get? a with
    | none=>rfl
    | some o=>have:=hk a o q; simp only at e; rw [this] at e; cases e
theorem leave_any {M:Model} {A:Around} {E:Value→Shared→Prop} {s:Shared} {h₀:Heap} {env:Env} {r:List Env} {L e C:Addr} {Q:Unit→Shared→Prop} (hfr:A.frames=some (env::r)) (hf:env.frame=some L) (fr:Frs s.heap (env::r)) (hl:∀ a o,h₀.get? a=some o→∃ o',s.heap.get? a=some o') (x:Fly (env::r) h₀ e C s.heap)
    (hQ:∀ h',Fly r h₀ e C h'→Kp h₀ (env::r) s.heap h'→Q () { s with heap:=h' }):wpAny M A (leaving env (.ref e)) Q E s:=by
  unfold leaving
  refine wpAny_bind (note_any hfr hf fr hl x fun h₁ held kp₁=>?_)
  obtain ⟨hnew,env',r',L',a0,q1,q2,htr⟩:=held
  refine land_any (l:=env::r) (kp_frs fr kp₁) htr fun h₂ htr₂ kp₂=>?_
  exact hQ h₂ ⟨hnew,.inr ⟨a0,.none,htr₂,.inl rfl⟩⟩ (kp₁.trans kp₂)
noncomputable def Sub (σ' σ:Store):Prop:=∀ a m,σ' a=some m→σ a=some m
theorem Sub.dom {σ' σ:Store} (h:Sub σ' σ) {a:Addr} (x:dom σ' a):Mine.dom σ a:=by
  rcases x with x | ⟨y,C,fs,x⟩
  · cases e:σ' a with
    | none=>exact absurd e x
    | some m=>exact .inl (by rw [h a m e]; exact Option.some_ne_none m)
  · exact .inr ⟨y,C,fs,h _ _ x⟩
theorem sub_none {σ' σ:Store} (h:Sub σ' σ) {a:Addr} (e:σ a=Option.none):σ' a=Option.none:=by
  cases q:σ' a with
  | none=>rfl
  | some m=>rw [h _ _ q] at e; cases e
theorem StoreOk.sub {σ' σ:Store} {P:Addr→Prop} {h:Heap} (ok:StoreOk σ P h) (hs:Sub σ' σ):StoreOk σ' P h:=
  ⟨fun a mo e=>MRep.stay (fun b o hN ho _=>⟨ho,fun q=>hN.1 (hs.dom q),hN.2⟩) (fun _ _ _ ho=>ho) (ok.rep a mo (hs a mo e)),
    fun x C dx fs e=>⟨sub_none hs (ok.apart x C dx fs (hs _ _ e)).1,fun y C' fs' e'=>(ok.apart x C dx fs (hs _ _ e)).2 y C' fs' (hs _ _ e')⟩,fun a ha=>ok.free a (hs.dom ha)⟩
theorem Rep.sub {σ' σ:Store} {P:Addr→Prop} {h:Heap} {d:D} {v:Value} (hs:Sub σ' σ) (x:Rep (nd σ P) h d v):Rep (nd σ' P) h d v:=Rep.stay (fun b o hN ho _=>⟨ho,fun q=>hN.1 (hs.dom q),hN.2⟩) _ _ x
theorem RepL.sub {σ' σ:Store} {P:Addr→Prop} {h:Heap} {d:List D} {v:List Value} (hs:Sub σ' σ) (x:RepL (nd σ P) h d v):RepL (nd σ' P) h d v:=RepL.stay (fun b o hN ho _=>⟨ho,fun q=>hN.1 (hs.dom q),hN.2⟩) _ _ x
noncomputable def Frz (d:D) (σ:Store) (d':D) (σ':Store):Prop:=Sub σ' σ∧(d'=d∨∃ a ds,d = .obj a∧σ a=some (.mlist ds)∧d' = .list ds∧σ' a=Option.none)
theorem frz_ok {d d':D} {σ σ':Store} {P:Addr→Prop} {h:Heap} {v:Value} (f:Frz d σ d' σ') (ok:StoreOk σ P h) (hr:Rep (nd σ P) h d v):StoreOk σ' P h∧Rep (nd σ' P) h d' v:=by
  refine ⟨ok.sub f.1,?_⟩
  rcases f.2 with rfl | ⟨a,ds,rfl,hm,rfl,hn⟩
  · exact hr.sub f.1
  · simp only [Rep] at hr ⊢
    obtain ⟨us,hl,hw⟩:=ok.rep a _ hm
    refine ⟨a,us,hr,⟨fun q=>?_,ok.free a (.inl (by rw [hm]; exact Option.some_ne_none _))⟩,hl.isList,hw.sub f.1⟩
    rcases q with q | ⟨y,C,fs,q⟩
    · exact q hn
    · have:=(ok.apart y C a fs (f.1 _ _ q)).1
      rw [hm] at this; cases this
noncomputable def retS (Φ:D→Store→Prop):Res→Prop
  | .ret d σ=>∃ d' σ',Frz d σ d' σ'∧Φ d' σ'
  | .next _ σ=>∃ σ',Sub σ' σ∧Φ .none σ'
  | _=>False
theorem Sub.refl (σ:Store):Sub σ σ:=fun _ _ e=>e
theorem retS_ret {Φ:D→Store→Prop} {d:D} {σ:Store} (h:Φ d σ):retS Φ (.ret d σ):=⟨d,σ,⟨Sub.refl σ,.inl rfl⟩,h⟩
noncomputable def retX (X:Addr→Store→Prop) (C:Addr) (σ:Store):Prop:=∃ σ',Sub σ' σ∧X C σ'
noncomputable def initGo:Nat→List (Nat×D)→PEnv
  | 0,_=>[]
  | k+1,l=>initGo k l++[l.lookup k]
noncomputable def initE (ps:List Nat) (ds:List D) (nv:Nat):PEnv:=initGo nv (ps.zip ds)
theorem at_append:∀ (ρ ρ':PEnv) (i:Nat) (d:D),PEnv.at (ρ++ρ') i=some d→(i<ρ.length∧ρ.at i=some d)∨(ρ.length≤i∧PEnv.at ρ' (i - ρ.length)=some d)
  | [],ρ',i,d,h => .inr ⟨Nat.zero_le _,by simpa using h⟩
  | e::r,ρ',0,d,h => .inl ⟨by simp,by simpa [PEnv.at] using h⟩
  | e::r,ρ',i+1,d,h=>by
    have h':PEnv.at (r++ρ') i=some d:=by simpa [PEnv.at] using h
    rcases at_append r ρ' i d h' with ⟨a,b⟩ | ⟨a,b⟩
    · exact .inl ⟨by simp; omega,by simpa [PEnv.at] using b⟩
    · exact .inr ⟨by simp; omega,by simpa using b⟩
theorem initGo_length:∀ k l,(initGo k l).length=k
  | 0,_=>rfl
  | k+1,l=>by simp [initGo,initGo_length k l]
theorem initGo_at:∀ (k:Nat) (l:List (Nat×D)) (i:Nat) (d:D),(initGo k l).at i=some d→l.lookup i=some d
  | 0,l,i,d,h=>by simp [initGo,PEnv.at] at h
  | k + 1,l,i,d,h=>by
    simp only [initGo] at h
    rcases at_append _ _ _ _ h with ⟨a,b⟩ | ⟨a,b⟩
    · exact initGo_at k l i d b
    · rw [initGo_length] at a b
      cases hk:i - k with
      | zero=>
        rw [hk] at b
        have:i=k:=by omega
        subst this
        simpa [PEnv.at] using b
      | succ j=>rw [hk] at b; simp [PEnv.at] at b
theorem lookup_zip:∀ (ps:List Nat) (ds:List D) (i:Nat) (d:D),(ps.zip ds).lookup i=some d→∃ j:Nat,ps[j]?=some i∧ds[j]?=some d
  | [],ds,i,d,h=>by simp at h
  | p::ps,[],i,d,h=>by simp at h
  | p :: ps,e::ds,i,d,h=>by
    rw [List.zip_cons_cons,List.lookup_cons] at h
    cases hb:i==p with
    | true=>
      rw [hb] at h
      simp at h hb
      subst h; subst hb
      exact ⟨0,rfl,rfl⟩
    | false=>
      rw [hb] at h
      obtain ⟨j,h1,h2⟩:=lookup_zip ps ds i d h
      exact ⟨j+1,by simpa using h1,by simpa using h2⟩
theorem bindL_no {kindOf:Str→Option NameKind} {x:Str}:∀ (binds:List (Str×Value)) (m:Str→Option Value),x ∉ binds.map (·.1)→bindL kindOf binds m x=m x
  | [],m,_=>rfl
  | (n,v)::r,m,h=>by
    simp only [List.map_cons,List.mem_cons,not_or] at h
    unfold bindL
    rw [bindL_no r _ h.2]
    split
    · exact if_neg h.1
    · rfl
theorem bindC_no {kindOf:Str→Option NameKind} {x:Str}:∀ (binds:List (Str×Value)) (m:Str→Option Value),x ∉ binds.map (·.1)→bindC kindOf binds m x=m x
  | [],m,_=>rfl
  | (n,v)::r,m,h=>by
    simp only [List.map_cons,List.mem_cons,not_or] at h
    unfold bindC
    rw [bindC_no r _ h.2]
    split
    · rfl
    · exact if_neg h.1
theorem bindL_at {kindOf:Str→Option NameKind} {x:Str} {v:Value} (hk:kindOf x=some .local):∀ (binds:List (Str×Value)) (m:Str→Option Value),(binds.map (·.1)).Nodup→(x,v)∈binds→bindL kindOf binds m x=some v
  | (n,u)::r,m,hnd,h=>by
    have hnd':=List.nodup_cons.mp hnd
    unfold bindL
    rcases List.mem_cons.mp h with e | h1
    · cases e
      rw [bindL_no r _ hnd'.1,if_pos hk]
      simp
    · exact bindL_at hk r _ hnd'.2 h1
theorem bindC_at {kindOf:Str→Option NameKind} {x:Str} {v:Value} (hk:kindOf x=some .cell):∀ (binds:List (Str×Value)) (m:Str→Option Value),(binds.map (·.1)).Nodup→(x,v)∈binds→bindC kindOf binds m x=some v
  | (n,u)::r,m,hnd,h=>by
    have hnd':=List.nodup_cons.mp hnd
    unfold bindC
    rcases List.mem_cons.mp h with e | h1
    · cases e
      rw [bindC_no r _ hnd'.1,if_neg (by rw [hk]; decide)]
      simp
    · exact bindC_at hk r _ hnd'.2 h1
set_option tactic.hygienic true in
theorem cellsFrom_has {x:Str}:∀ (names:List (Str×NameKind)) (n:Nat) (acc:List (Str×Addr)),((x,NameKind.cell)∈names∨∃ a,(x,a)∈acc)→∃ a,(x,a)∈cellsFrom n names acc
  | [],n,acc,h=>h.elim (fun h=>by cases h) id
  | (m, k)::r,n,acc,h=>by
    unfold cellsFrom
    split
    · refine cellsFrom_has r _ _ ?_
      rcases h with h | ⟨a,h⟩
      · rcases List.mem_cons.mp h with e | h
        · cases e; exact .inr ⟨n,List.mem_cons_self⟩
        · exact .inl h
      · exact .inr ⟨a,List.mem_cons_of_mem _ h⟩
    · rename_i hk
      refine cellsFrom_has r _ _ ?_
      rcases h with h | ⟨a,h⟩
      · rcases List.mem_cons.mp h with e | h
        · cases e; exact absurd (by rfl) hk
        · exact .inl h
      · exact .inr ⟨a,h⟩
noncomputable def fnChk (nm:Nat→Str) (vs ps:List Nat) (sc:Scope):Bool:=
  sc.kind == .function&&!sc.isGenerator&&!sc.isCoroutine&&decide (sc.names.map (·.1)).Nodup&&decide ((vs.map nm).Nodup)&&ps.all (fun i=>vs.contains i)&&decide ((ps.map nm).Nodup) &&
  vs.all (fun i=>(sc.names.contains (nm i,.local) || sc.names.contains (nm i,.cell))&&!(nm i==("__debug__" : Str)))
theorem inj_of_nodup {nm:Nat→Str}:∀ {vs:List Nat},(vs.map nm).Nodup→∀ i∈vs,∀ j∈vs,nm i=nm j→i=j
  | v::r,h,i,hi,j,hj,e=>by
    have h':=List.nodup_cons.mp h
    rcases List.mem_cons.mp hi with rfl | hi' <;> rcases List.mem_cons.mp hj with rfl | hj'
    · rfl
    · exact absurd (List.mem_map.mpr ⟨j,hj',e.symm⟩) h'.1
    · exact absurd (List.mem_map.mpr ⟨i,hi',e⟩) h'.1
    · exact inj_of_nodup h'.2 i hi' j hj' e
set_option tactic.hygienic true in
theorem fn_valid {c:Bx} {n:Nat} {t:Tb} {S:Nat→Spec} (G:GT c n t S) (GE:GX c t) (hq:t.q=true∧t.cv=Option.none) {f:Addr} {o:Obj} {fd:FuncData} {body:List PS} {vs ps:List Nat} {nv:Nat} {Sp:Spec}
    (ho:c.b.get? f=some o) (hd:o.data = .func fd) (hcd:c.b.CodeRec fd.code fd.qualname) (hbody:fd.body = .stmts (embSs t.N body)) (hclo:fd.closure=[]) (hgl:fd.globals=mainGlobals) (hbu:fd.builtins=builtinsNs)
    (hchk:fnChk t.N.nm vs ps fd.scope=true) (hw:wfSs t fd.scope.names vs body=true) (hbind:∀ us:List Value,us.length=ps.length→bindArgs fd ⟨us,[]⟩=pure ((ps.map t.N.nm).zip us))
    (hS:∀ ds σ Φ X,Sp ds σ Φ X→ds.length=ps.length∧vcSs S ⟨retX X,Option.none⟩ body (initE ps ds nv) σ (retS Φ)):Valid c (n+1) f Sp:=by
  refine ⟨⟨o,fd,ho,hd⟩,fun A hA l hF ds σ Φ X hSp P s us hb ok own hprot hwp hwb hfr hr Q E hQ hE=>?_⟩
  obtain ⟨hlen,hvc⟩:=hS ds σ Φ X hSp
  have hul:us.length=ps.length:=hr.length.trans hlen
  unfold fnChk at hchk
  simp only [Bool.and_eq_true,Bool.not_eq_true',decide_eq_true_eq,List.all_eq_true] at hchk
  obtain ⟨⟨⟨⟨⟨⟨⟨hk1,hk2⟩,hk3⟩,hnd⟩,hvnd⟩,hps⟩,hpnd⟩,hall⟩:=hchk
  have hk1':fd.scope.kind = .function:=by simpa using hk1
  have kindOf:∀ x k,(x,k)∈fd.scope.names→fd.scope.names.lookup x=some k:=fun x k hm=>lookup_nodup hnd hm
  have kinds:∀ i∈vs,fd.scope.names.lookup (t.N.nm i)=some .local∨((t.N.nm i,NameKind.cell)∈fd.scope.names∧fd.scope.names.lookup (t.N.nm i)=some .cell):=fun i hi=>by
    have:=(hall i hi).1
    simp only [Bool.or_eq_true] at this
    rcases this with h | h
    · exact .inl (kindOf _ _ (by simpa using h))
    · exact .inr ⟨by simpa using h,kindOf _ _ (by simpa using h)⟩
  have bnames:((ps.map t.N.nm).zip us).map (·.1)=ps.map t.N.nm:=by
    rw [List.map_fst_zip]; simp [hul]
  refine (codeAny_call_cells (by unfold recursionLimit; have:=hA.2.1; omega) (hb f o ho) hd (c.hl.keeps hb) (hcd.keeps hb) hbody (hbind us hul) hclo (fun x hx=>?_) (fun s₁ X₁=>?_) hk3 hk2 hk1')
  · have hx1:x.1∈ps.map t.N.nm:=by rw [← bnames]; exact List.mem_map_of_mem (f:=fun y:Str×Value=>y.1) hx
    obtain ⟨i,hi,e⟩:=List.mem_map.mp hx1
    have hiv:i∈vs:=by simpa using hps i hi
    rw [← e]
    rcases kinds i hiv with h | ⟨h1,h2⟩
    · exact .inl h
    · refine .inr ⟨h2,?_⟩
      obtain ⟨a,ha⟩:=cellsFrom_has fd.scope.names (s.heap.objs.size+1) [] (.inl h1)
      obtain ⟨b,hb'⟩:=lookup_of_mem ha
      rw [hb']; rfl
  · have hkeep:∀ b o,s.heap.get? b=some o→s₁.heap.get? b=some o:=X₁.toInCall.keep
    have kp₀:Keeps s s₁:=by obtain ⟨h',tk,e,k⟩:=X₁.done; exact ⟨h',tk,e,k⟩
    have frN:∀ a,FrA (callEnvC fd s.heap.objs.size f) a→s.heap.get? a=Option.none:=fun a ha=>by
      have hge:s.heap.objs.size≤a:=by
        rcases ha with rfl | ⟨y,hy⟩
        · exact X₁.toInCall.fresh
        · exact Nat.le_of_lt (X₁.above y a (mem_of_lookup hy))
      cases e:s.heap.get? a with
      | none=>rfl
      | some o'=>exact absurd (Heap.lt_size e) (Nat.not_lt.mpr hge)
    have eo:EnvOk t.N.nm vs (callEnvC fd s.heap.objs.size f):=
      ⟨hk1',hgl,hbu,inj_of_nodup hvnd,fun i hi=>by
        rcases kinds i hi with h | ⟨h1,h2⟩
        · exact .inl h
        · refine .inr ⟨h2,?_⟩
          obtain ⟨a,ha⟩:=cellsFrom_has fd.scope.names (s.heap.objs.size+1) [] (.inl h1)
          exact lookup_of_mem ha,fun i hi=>(hall i hi).2,X₁.apart⟩
    have hn:Nm (callEnvC fd s.heap.objs.size f) fd.scope.names:=⟨fun x hx=>kindOf x _ hx,fun x hx=>kindOf x _ hx,fun x hx=>kindOf x _ hx⟩
    obtain ⟨L,hL⟩:∃ L,L=(callEnvC fd s.heap.objs.size f).locals:=⟨_,rfl⟩
    have hfL:(callEnvC fd s.heap.objs.size f).frame=some L:=by rw [hL]; rfl
    have hLn:s.heap.get? L=Option.none:=frN L (.inl hL)
    have flN:∀ a,(callEnvC fd s.heap.objs.size f).frame=some a→s.heap.get? a=Option.none:=fun a ha=>by rw [hfL] at ha; cases ha; exact hLn
    obtain ⟨P',hP'⟩:∃ P':Addr→Prop,∀ a,P' a ↔ P a∨a=L:=⟨fun a=>P a∨a=L,fun _=>Iff.rfl⟩
    have stayP:Stay (nd σ P) (nd σ P') s.heap s₁.heap:=fun a o hN ho _=>⟨hkeep a o ho,hN.1,fun q=>((hP' a).mp q).elim hN.2 fun e=>by rw [e,hLn] at ho; cases ho⟩
    have okP:StoreOk σ P' s₁.heap:=⟨fun a mo e=>(ok.rep a mo e).stay stayP fun b o _ ho=>hkeep b o ho,ok.apart,fun a ha q=>((hP' a).mp q).elim (ok.free a ha) fun e=>by
      obtain ⟨o',ho'⟩:=ok.alive ha
      rw [e,hLn] at ho'; cases ho'⟩
    have frs₁:Frs s₁.heap (callEnvC fd s.heap.objs.size f::l):=fun e he=>by
      rcases List.mem_cons.mp he with rfl | he
      · obtain ⟨o',es,ep,ho',hd',_⟩:=X₁.toInCall.ns
        exact ⟨by rw [eo.kind]; decide,L,o',hfL,by rw [hL]; exact ho',fun vs q=>by rw [hd'] at q; cases q⟩
      · exact (hfr.keeps hkeep) e he
    have wpP:∀ a,WL (callEnvC fd s.heap.objs.size f::l) a→P' a:=fun a ha=>(hP' a).mpr ((WL.cons.mp ha).symm.imp (hwp a) fun q=>by rw [hfL] at q; cases q; rfl)
    have hexc:∀ e C σ' s',retX X C σ'→Step (WL (callEnvC fd s.heap.objs.size f::l)) (FrA (callEnvC fd s.heap.objs.size f)) σ σ' s₁ s'→StoreOk σ' P' s'.heap→Frs s'.heap (callEnvC fd s.heap.objs.size f::l)→Fly (callEnvC fd s.heap.objs.size f::l) s₁.heap e C s'.heap→
        wpAny c.M (A.deeper (callEnvC fd s.heap.objs.size f)) (leaving (callEnvC fd s.heap.objs.size f) (.ref e)) (fun _ s''=>E (.ref e) s'') (fun e' s''=>E e' s'') s':=by
      intro e C σ' s' hX st okk fr fl
      obtain ⟨σ'',hsub,hXC⟩:=hX
      refine leave_any (h₀:=s₁.heap) (C:=C) (Around.frames_deeper hF) hfL fr st.alive fl fun h' fl' kp=>?_
      have st':=Step.leave kp₀ (kp_step st kp) frN flN
      exact hE e C σ'' _ hXC ⟨st'.same,st'.keep,st'.slot,st'.alive,fun a ha=>st'.new a (hsub.dom ha)⟩ (((kp_store okk kp wpP).weak fun a ha=>(hP' a).mpr (.inl ha)).sub hsub) (fun x hx=>(kp_frs fr kp) x (List.mem_cons_of_mem _ hx)) (fl'.elder fun a o ha=>⟨o,hkeep a o ha⟩)
    obtain ⟨c',hc'⟩:∃ c':Cx,c'=⟨c,callEnvC fd s.heap.objs.size f::l,fun e s'=>wpAny c.M (A.deeper (callEnvC fd s.heap.objs.size f)) (leaving (callEnvC fd s.heap.objs.size f) e) (fun _ s''=>E e s'') (fun e' s''=>E e' s'') s',retX X,Option.none,FrA (callEnvC fd s.heap.objs.size f),σ,s₁,P',hexc⟩:=⟨_,rfl⟩
    have g:Good c' t.N.nm vs (callEnvC fd s.heap.objs.size f) (initE ps ds nv) σ P' s₁:=by
      subst hc'
      refine ⟨fun a o' e=>hkeep a o' (hb a o' e),⟨_,X₁.toInCall.ns⟩,fun x ca hx=>⟨_,X₁.cell x ca hx⟩,fun i d e=>?_,okP,fun a ha=>⟨own a ha,fun hf=>?_⟩,fun a hf=>?_,fun a ha=>?_,wpP,fun a ha=>?_,frs₁,fun _ h=>h,Step.refl _ _ _ _,fun i C q=>by cases q⟩
      · obtain ⟨j,hj1,hj2⟩:=lookup_zip ps ds i d (initGo_at _ _ _ _ e)
        have hip:i∈ps:=List.mem_of_getElem? hj1
        have hiv:i∈vs:=by simpa using hps i hip
        obtain ⟨v,hv1,hv2⟩:=hr.get hj2
        have hmem:(t.N.nm i,v)∈(ps.map t.N.nm).zip us:=by
          refine List.mem_of_getElem? (i:=j) ?_
          rw [List.getElem?_zip_eq_some]
          exact ⟨by rw [List.getElem?_map,hj1]; rfl,hv1⟩
        refine ⟨hiv,v,?_,Rep.stay stayP _ _ hv2⟩
        rcases kinds i hiv with h | ⟨h1,h2⟩
        · exact .inl ⟨h,_,X₁.toInCall.ns,bindL_at h _ _ (by rw [bnames]; exact hpnd) hmem⟩
        · right
          obtain ⟨a,ha⟩:=cellsFrom_has fd.scope.names (s.heap.objs.size+1) [] (.inl h1)
          obtain ⟨b,hb'⟩:=lookup_of_mem ha
          refine ⟨h2,b,hb',?_⟩
          have:=X₁.cell _ _ hb'
          rwa [bindC_at h2 _ _ (by rw [bnames]; exact hpnd) hmem] at this
      · obtain ⟨o',ho'⟩:=ok.alive ha
        rw [frN a hf] at ho'; cases ho'
      · cases e:c.b.get? a with
        | none=>rfl
        | some o'=>have:=hb a o' e; rw [frN a hf] at this; cases this
      · rcases (hP' a).mp ha with ha | rfl
        · obtain ⟨o',ho'⟩:=hprot a ha
          exact ⟨o',hkeep a o' ho'⟩
        · obtain ⟨o',es,ep,ho',_⟩:=X₁.toInCall.ns
          exact ⟨o',by rw [hL]; exact ho'⟩
      · rcases WL.cons.mp ha with q | q
        · cases e:c.b.get? a with
          | none=>rfl
          | some o'=>have:=hb a o' e; rw [flN a q] at this; cases this
        · exact hwb a q
    have hA':=Room.deeper hA (callEnvC fd s.heap.objs.size f)
    have back:∀ {σ':Store} {h:Heap} {d:D} {v:Value},Rep (nd σ' P') h d v→Rep (nd σ' P) h d v:=fun x=>Rep.stay (fun a o hN ho _=>⟨ho,hN.1,fun q=>hN.2 ((hP' a).mpr (.inl q))⟩) _ _ x
    have z:AtS n t S ⟨retX X,Option.none⟩ c' (A.deeper (callEnvC fd s.heap.objs.size f)) (callEnvC fd s.heap.objs.size f):=by
      subst hc'
      exact ⟨⟨G,GE,fun _=>hA',fun _=>hq.2,units_ok hA',Around.frames_deeper hF,rfl,by rw [hq.2]; rfl⟩,fun _ a ha=>ha,⟨l,L,rfl,hfL⟩,wpP⟩
    have hrun:=soundSs body t _ _ c' fd.scope.names vs _ z eo hn hw _ _ _ hvc P' s₁ g
    have cW:c'.W=WL (callEnvC fd s.heap.objs.size f::l):=by rw [hc']
    have cE:c'.E=fun e s'=>wpAny c.M (A.deeper (callEnvC fd s.heap.objs.size f)) (leaving (callEnvC fd s.heap.objs.size f) e) (fun _ s''=>E e s'') (fun e' s''=>E e' s'') s':=by rw [hc']
    have cM:c'.M=c.M:=by rw [hc']
    rw [cE,cM,cW] at hrun
    refine hrun _ fun fl s' r hres st ro=>?_
    have stl:=Step.leave kp₀ st frN flN
    cases r with
    | next ρ' σ'=>
      obtain ⟨rfl,g'⟩:=ro
      obtain ⟨σ'',hsub,hΦ⟩:=hres
      exact hQ .none .none σ'' s' hΦ ⟨stl.same,stl.keep,stl.slot,stl.alive,fun a ha=>stl.new a (hsub.dom ha)⟩ ((g'.st.weak fun a ha=>(hP' a).mpr (.inl ha)).sub hsub) rep_none
    | ret d σ'=>
      obtain ⟨u,rfl,h1,h2⟩:=ro
      obtain ⟨d',σ'',hfz,hΦ⟩:=hres
      obtain ⟨k1,k2⟩:=frz_ok hfz (h1.weak fun a ha=>(hP' a).mpr (.inl ha)) (back h2.1)
      exact hQ u d' σ'' s' hΦ ⟨stl.same,stl.keep,stl.slot,stl.alive,fun a ha=>stl.new a (hfz.1.dom ha)⟩ k1 k2
    | brk ρ' σ'=>exact hres.elim
    | cont ρ' σ'=>exact hres.elim
end Mine
end
section
open PySem PyProof.Rows
set_option Elab.async false
namespace Mine
noncomputable abbrev dI (xs:List Int):D := .list (xs.map D.int)
set_option tactic.hygienic true in
theorem forS_inv {step:D→PEnv→Store→(Res→Prop)→Prop} {keep:Store→Prop} {Φ:Res→Prop} {ds:List D} (I:Nat→PEnv→Store→Prop) (hkeep:∀ k ρ σ,I k ρ σ→keep σ)
    (hstep:∀ k d ρ σ (K:PEnv→Store→Prop),ds[k]?=some d→I k ρ σ→(∀ ρ' σ',I (k+1) ρ' σ'→K ρ' σ')→step d ρ σ fun r=>match r with
      | .next ρ' σ'=>K ρ' σ'
      | .cont ρ' σ'=>K ρ' σ'
      | .brk ρ' σ'=>Φ (.next ρ' σ')
      | .ret d' σ'=>Φ (.ret d' σ'))
    (hend:∀ ρ σ,I ds.length ρ σ→Φ (.next ρ σ)) {ρ:PEnv} {σ:Store} (h0:I 0 ρ σ):forS step keep ds ρ σ Φ:=by
  suffices H:∀ n k ρ σ,n=ds.length - k→k≤ds.length→I k ρ σ→forS step keep (ds.drop k) ρ σ Φ by
    have:=H ds.length 0 ρ σ rfl (Nat.zero_le _) h0
    rwa [List.drop_zero] at this
  intro n
  induction n with
  | zero=>
    intro k ρ σ hn hk hI
    have:k=ds.length:=lp0 hn.symm hk
    subst this
    rw [List.drop_length]
    exact hend ρ σ hI
  | succ n ih=>
    intro k ρ σ hn hk hI
    have hlt:k<ds.length:=lp1 hn.symm
    rw [List.drop_eq_getElem_cons hlt]
    simp only [forS]
    exact hstep k ds[k] ρ σ (fun ρ' σ'=>keep σ'∧forS step keep (ds.drop (k+1)) ρ' σ' Φ) (List.getElem?_eq_getElem hlt) hI fun ρ' σ' h'=>⟨hkeep _ _ _ h',ih (k+1) ρ' σ' (lp2 hn.symm).symm hlt h'⟩
theorem get_map_int {xs:List Int} {k:Nat} (h:k<xs.length):(xs.map D.int)[k]?=some (.int xs[k]):=by rw [List.getElem?_map,List.getElem?_eq_getElem h]; rfl
theorem get_map {α:Type} (f:α→D) {xs:List α} {k:Nat} (h:k<xs.length):(xs.map f)[k]?=some (f xs[k]):=by rw [List.getElem?_map,List.getElem?_eq_getElem h]; rfl
theorem small_ok {n:Nat} (h:n≤100000):n≤small:=by unfold small; omega
noncomputable def pl:Nat→D→Prop
  | _,.none=>True
  | _,.int _=>True
  | n+1,.list xs=>∀ x∈xs,pl n x
  | n+1,.tuple xs=>∀ x∈xs,pl n x
  | _,_=>False
theorem pys_ok {n:Nat} (ih:∀ d,pl n d→∃ x,D.py d=some x∧x.canLay0=true∧x.depth≤n):∀ xs:List D,(∀ x∈xs,pl n x)→∃ ys,D.pys xs=some ys∧PyData.canLayAll0 ys=true∧PyData.depthAll ys≤n
  | [],_=>⟨[],rfl,rfl,by simp [PyData.depthAll]⟩
  | d::ds,h=>by
    obtain ⟨x,e,c,p⟩:=ih d (h d List.mem_cons_self)
    obtain ⟨ys,e',c',p'⟩:=pys_ok ih ds fun y hy=>h y (List.mem_cons_of_mem _ hy)
    refine ⟨x::ys,by rw [D.pys,e,e']; rfl,by rw [PyData.canLayAll0,c,c']; rfl,?_⟩
    rw [PyData.depthAll]; omega
theorem pl_py:∀ (n:Nat) (d:D),pl n d→∃ x,D.py d=some x∧x.canLay0=true∧x.depth≤n
  | _,.none,_=>⟨.none,rfl,rfl,by simp [PyData.depth]⟩
  | _,.int i,_=>⟨.int i,rfl,rfl,by simp [PyData.depth]⟩
  | n+1,.list xs,h=>by
    obtain ⟨ys,e,c,p⟩:=pys_ok (pl_py n) xs h
    refine ⟨.list ys,by rw [D.py,e]; rfl,by rw [PyData.canLay0]; exact c,?_⟩
    rw [PyData.depth]; omega
  | n+1,.tuple xs,h=>by
    obtain ⟨ys,e,c,p⟩:=pys_ok (pl_py n) xs h
    refine ⟨.tuple ys,by rw [D.py,e]; rfl,by rw [PyData.canLay0]; exact c,?_⟩
    rw [PyData.depth]; omega
  | 0,.list _,h=>h.elim
  | 0,.tuple _,h=>h.elim
  | 0,.bool _,h=>h.elim
  | n+1,.bool _,h=>h.elim
  | 0,.str _,h=>h.elim
  | n+1,.str _,h=>h.elim
  | 0,.obj _,h=>h.elim
  | n+1,.obj _,h=>h.elim
theorem pys_eqv {n:Nat} (ih:∀ m d e x y,pl n d→pl m e→D.py d=some x→D.py e=some y→(PyData.eqv x y=true ↔ d=e)) {m:Nat}:∀ (ds es:List D) (xs ys:List PyData),(∀ d∈ds,pl n d)→(∀ e∈es,pl m e)→D.pys ds=some xs→D.pys es=some ys→(PyData.eqvAll xs ys=true ↔ ds=es)
  | [],[],xs,ys,_,_,e,e'=>by cases e; cases e'; simp [PyData.eqvAll]
  | [],d::es,xs,ys,_,h,e,e'=>by
    cases e
    obtain ⟨x,q,_⟩:=pl_py m d (h d List.mem_cons_self)
    obtain ⟨zs,q',_⟩:=pys_ok (pl_py m) es fun y hy=>h y (List.mem_cons_of_mem _ hy)
    rw [D.pys,q,q'] at e'
    cases e'
    simp [PyData.eqvAll]
  | d::ds,[],xs,ys,h,_,e,e'=>by
    cases e'
    obtain ⟨x,q,_⟩:=pl_py n d (h d List.mem_cons_self)
    obtain ⟨zs,q',_⟩:=pys_ok (pl_py n) ds fun y hy=>h y (List.mem_cons_of_mem _ hy)
    rw [D.pys,q,q'] at e
    cases e
    simp [PyData.eqvAll]
  | d::ds,f::es,xs,ys,h,h',e,e'=>by
    obtain ⟨x,q,_⟩:=pl_py n d (h d List.mem_cons_self)
    obtain ⟨zs,q',_⟩:=pys_ok (pl_py n) ds fun y hy=>h y (List.mem_cons_of_mem _ hy)
    obtain ⟨x2,q2,_⟩:=pl_py m f (h' f List.mem_cons_self)
    obtain ⟨zs2,q2',_⟩:=pys_ok (pl_py m) es fun y hy=>h' y (List.mem_cons_of_mem _ hy)
    have i1:=ih m d f x x2 (h d List.mem_cons_self) (h' f List.mem_cons_self) q q2
    have i2:=pys_eqv ih ds es zs zs2 (fun y hy=>h y (List.mem_cons_of_mem _ hy)) (fun y hy=>h' y (List.mem_cons_of_mem _ hy)) q' q2'
    rw [D.pys,q,q'] at e
    rw [D.pys,q2,q2'] at e'
    cases e; cases e'
    rw [PyData.eqvAll,Bool.and_eq_true,i1,i2,List.cons.injEq]
theorem pl_seq {m:Nat} {xs:List D} (h:pl m (.list xs)∨pl m (.tuple xs)):∃ k,m=k+1∧∀ x∈xs,pl k x:=by
  cases m with
  | zero=>exact h.elim (fun q=>q.elim) (fun q=>q.elim)
  | succ k=>exact ⟨k,rfl,h.elim id id⟩
theorem py_list {xs:List D} {y:PyData} (h:D.py (.list xs)=some y):∃ ys,D.pys xs=some ys∧y = .list ys:=by
  rw [D.py] at h
  cases e:D.pys xs with
  | none=>rw [e] at h; cases h
  | some ys=>rw [e] at h; cases h; exact ⟨ys,rfl,rfl⟩
theorem py_tuple {xs:List D} {y:PyData} (h:D.py (.tuple xs)=some y):∃ ys,D.pys xs=some ys∧y = .tuple ys:=by
  rw [D.py] at h
  cases e:D.pys xs with
  | none=>rw [e] at h; cases h
  | some ys=>rw [e] at h; cases h; exact ⟨ys,rfl,rfl⟩
theorem pl_not_bool {n:Nat} {b:Bool}:¬ pl n (.bool b):=by cases n <;> exact id
theorem pl_not_str {n:Nat} {b:Str}:¬ pl n (.str b):=by cases n <;> exact id
theorem pl_not_obj {n:Nat} {b:Addr}:¬ pl n (.obj b):=by cases n <;> exact id
theorem pl_eqv:∀ (n m:Nat) (d e:D) (x y:PyData),pl n d→pl m e→D.py d=some x→D.py e=some y→(PyData.eqv x y=true ↔ d=e):=by
  intro n
  induction n with
  | zero=>
    intro m d e x y hd he px py
    cases d with
    | none=>
      cases px
      cases e with
      | none=>cases py; simp [PyData.eqv]
      | int j=>cases py; simp [PyData.eqv]
      | list xs=>obtain ⟨ys,_,rfl⟩:=py_list py; simp [PyData.eqv]
      | tuple xs=>obtain ⟨ys,_,rfl⟩:=py_tuple py; simp [PyData.eqv]
      | bool b=>exact (pl_not_bool he).elim
      | str b=>exact (pl_not_str he).elim
      | obj b=>exact (pl_not_obj he).elim
    | int i=>
      cases px
      cases e with
      | none=>cases py; simp [PyData.eqv]
      | int j=>cases py; simp [PyData.eqv]
      | list xs=>obtain ⟨ys,_,rfl⟩:=py_list py; simp [PyData.eqv]
      | tuple xs=>obtain ⟨ys,_,rfl⟩:=py_tuple py; simp [PyData.eqv]
      | bool b=>exact (pl_not_bool he).elim
      | str b=>exact (pl_not_str he).elim
      | obj b=>exact (pl_not_obj he).elim
    | list xs=>exact hd.elim
    | tuple xs=>exact hd.elim
    | bool b=>exact hd.elim
    | str b=>exact hd.elim
    | obj b=>exact hd.elim
  | succ n ih=>
    intro m d e x y hd he px py
    cases d with
    | none=>
      cases px
      cases e with
      | none=>cases py; simp [PyData.eqv]
      | int j=>cases py; simp [PyData.eqv]
      | list xs=>obtain ⟨ys,_,rfl⟩:=py_list py; simp [PyData.eqv]
      | tuple xs=>obtain ⟨ys,_,rfl⟩:=py_tuple py; simp [PyData.eqv]
      | bool b=>exact (pl_not_bool he).elim
      | str b=>exact (pl_not_str he).elim
      | obj b=>exact (pl_not_obj he).elim
    | int i=>
      cases px
      cases e with
      | none=>cases py; simp [PyData.eqv]
      | int j=>cases py; simp [PyData.eqv]
      | list xs=>obtain ⟨ys,_,rfl⟩:=py_list py; simp [PyData.eqv]
      | tuple xs=>obtain ⟨ys,_,rfl⟩:=py_tuple py; simp [PyData.eqv]
      | bool b=>exact (pl_not_bool he).elim
      | str b=>exact (pl_not_str he).elim
      | obj b=>exact (pl_not_obj he).elim
    | list xs=>
      obtain ⟨xs',px',rfl⟩:=py_list px
      cases e with
      | none=>cases py; simp [PyData.eqv]
      | int j=>cases py; simp [PyData.eqv]
      | list ys=>
        obtain ⟨ys',py',rfl⟩:=py_list py
        obtain ⟨k,_,hk⟩:=pl_seq (.inl he)
        rw [PyData.eqv,pys_eqv ih xs ys xs' ys' hd hk px' py',D.list.injEq]
      | tuple ys=>obtain ⟨ys,_,rfl⟩:=py_tuple py; simp [PyData.eqv]
      | bool b=>exact (pl_not_bool he).elim
      | str b=>exact (pl_not_str he).elim
      | obj b=>exact (pl_not_obj he).elim
    | tuple xs=>
      obtain ⟨xs',px',rfl⟩:=py_tuple px
      cases e with
      | none=>cases py; simp [PyData.eqv]
      | int j=>cases py; simp [PyData.eqv]
      | tuple ys=>
        obtain ⟨ys',py',rfl⟩:=py_tuple py
        obtain ⟨k,_,hk⟩:=pl_seq (.inr he)
        rw [PyData.eqv,pys_eqv ih xs ys xs' ys' hd hk px' py',D.tuple.injEq]
      | list ys=>obtain ⟨ys,_,rfl⟩:=py_list py; simp [PyData.eqv]
      | bool b=>exact (pl_not_bool he).elim
      | str b=>exact (pl_not_str he).elim
      | obj b=>exact (pl_not_obj he).elim
    | bool b=>exact hd.elim
    | str b=>exact hd.elim
    | obj b=>exact hd.elim
theorem pl_shaped {d:D} (h:pl 20 d):∃ x,D.py d=some x∧SeqAt.shaped x=true:=by
  obtain ⟨x,e,c,p⟩:=pl_py 20 d h
  refine ⟨x,e,?_⟩
  show (x.canLay0&&decide (x.depth≤64))=true
  rw [c,decide_eq_true (by omega)]; rfl
theorem pl_eqP {d:D} {σ:Store} (h:pl 20 d):eqP σ d=D.py d:=by
  cases d with
  | obj a=>exact h.elim
  | _=>rfl
theorem eqS {a b:D} {σ σ':Store} {Φ:D→Store→Prop} (ha:pl 20 a) (hb:pl 20 b) (h:∀ t:Bool,(t=true ↔ a=b)→Φ (.bool t) σ') :
    ∃ x y,eqP σ a=some x∧eqP σ b=some y∧SeqAt.shaped x=true∧SeqAt.shaped y=true∧Φ (.bool (PyData.eqv x y)) σ':=by
  obtain ⟨x,e,c⟩:=pl_shaped ha
  obtain ⟨y,e',c'⟩:=pl_shaped hb
  exact ⟨x,y,(pl_eqP ha).trans e,(pl_eqP hb).trans e',c,c',h _ (pl_eqv 20 20 a b x y ha hb e e')⟩
theorem neS {a b:D} {σ σ':Store} {Φ:D→Store→Prop} (ha:pl 20 a) (hb:pl 20 b) (h:∀ t:Bool,(t=true ↔ a=b)→Φ (.bool (!t)) σ') :
    ∃ x y,eqP σ a=some x∧eqP σ b=some y∧SeqAt.shaped x=true∧SeqAt.shaped y=true∧Φ (.bool (!PyData.eqv x y)) σ':=by
  obtain ⟨x,e,c⟩:=pl_shaped ha
  obtain ⟨y,e',c'⟩:=pl_shaped hb
  exact ⟨x,y,(pl_eqP ha).trans e,(pl_eqP hb).trans e',c,c',h _ (pl_eqv 20 20 a b x y ha hb e e')⟩
theorem eqS_same {a:D} {σ σ':Store} {Φ:D→Store→Prop} (ha:pl 20 a) (h:Φ (.bool true) σ') :
    ∃ x y,eqP σ a=some x∧eqP σ a=some y∧SeqAt.shaped x=true∧SeqAt.shaped y=true∧Φ (.bool (PyData.eqv x y)) σ':=
  eqS ha ha fun t ht=>by rw [ht.mpr rfl]; exact h
theorem pl_ints {n:Nat} (xs:List Int):pl (n+1) (dI xs):=by
  intro x hx
  obtain ⟨i,_,rfl⟩:=List.mem_map.mp hx
  cases n <;> exact trivial
theorem pl_list {n:Nat} {α:Type} (f:α→D) (xs:List α) (h:∀ x∈xs,pl n (f x)):pl (n+1) (.list (xs.map f)):=by
  intro x hx
  obtain ⟨i,hi,rfl⟩:=List.mem_map.mp hx
  exact h i hi
end Mine
end
section
open PySem PySem.W PyProof.Rows
set_option Elab.async false
namespace Mine
theorem globF {c:Bx} {x:Str} {v:Value} (h:c.mg x=some v):c.glob x=some v:=by rw [Bx.glob,h]; rfl
theorem globB {c:Bx} {x:Str} {v:Value} (h:c.mg x=none) (B:∀ x:Str,x ≠ "__name__" → c.mb x=bootBuiltins x) (hx:x ≠ "__name__") (e:bootBuiltins x=some v):c.glob x=some v:=by
  rw [Bx.glob,h,B x hx,e]; rfl
theorem repL_ints {N:Addr→Prop} {h:Heap}:∀ {vs:List Value} {ns:List Int},IntsAre vs ns→RepL N h (ns.map D.int) vs
  | _,_,.nil => .nil
  | _,_,.cons n t r => .cons (by simp only [Rep]; exact ⟨t,rfl⟩) (repL_ints r)
noncomputable def noS:Store:=fun _=>none
theorem noS_dom {a:Addr}:¬ dom noS a:=by
  rintro (h | ⟨x,C,fs,h⟩)
  · exact h rfl
  · cases h
theorem storeOk_no {P:Addr→Prop} {h:Heap}:StoreOk noS P h:=⟨fun a mo e=>(by cases e),fun x C dx fs e=>(by cases e),fun a ha=>(noS_dom ha).elim⟩
theorem law_good {c:Bx} {n:Nat} {f:Addr} {Sp:Spec} (V:Valid c n f Sp) {s₁:Shared} (hb:c.b=s₁.heap) (hn:Room n callerA) {a:Addr} {vs:List Value} {ns:List Int} (hL:s₁.heap.IsList a vs.toArray) (hI:IntsAre vs ns) (hg:s₁.gens=#[])
    (hS:Sp [dI ns] noS (fun d _=>d = .bool true) fun _ _=>False) {cl:ClaimW} {ca:Str→Option Addr} {mean:ExcName→Option Value} {args:List WData} (hr:∀ x,cl.raises args x=false) (hp:cl.post args (.bool true) args=true) :
    codeAny c.M callerA (.call (.ref f) ⟨[.ref a],[]⟩) (GoodWG cl ca mean args s₁) s₁:=by
  refine codeAny_mono (R:=fun r s'=>GoodW cl ca mean args s₁ r s') ?_ (fun _ _ g=>GoodW.toG g)
  have:=V.call callerA hn [] rfl [dI ns] noS _ _ hS (fun _=>False) s₁ [.ref a] (fun a o e=>by rw [hb] at e; exact e) storeOk_no (fun a ha=>(noS_dom ha).elim) (fun a ha=>ha.elim) (fun a ⟨_,h,_⟩=>by cases h) (fun a ⟨_,h,_⟩=>by cases h) (fun e h=>by cases h)
    (.one (by simp only [Rep]; exact ⟨a,vs.toArray,rfl,⟨noS_dom,id⟩,hL,by simpa using repL_ints hI⟩))
    (fun v s'=>GoodW cl ca mean args s₁ (.ok (.ret v)) s') (fun e s'=>GoodW cl ca mean args s₁ (.error e) s') (fun v d σ' s' hd st ok hr'=>?_) (fun _ _ _ _ h=>h.elim)
  · refine codeAny_mono this fun r s' h=>?_
    match r,h with
    | .ok (.ret v),h=>exact h
    | .error e,h=>exact h
  · subst hd
    simp only [Rep] at hr'
    subst hr'
    obtain ⟨h',tk,rfl⟩:=st.same
    exact ⟨.inl ⟨.bool true,.bool true,[],rfl,hr,.bool true,hp,fun _=>⟨List.nodup_nil,fun a ha=>by cases ha⟩⟩,fun b o e=>st.keep b o e noS_dom id (fun ⟨_,h,_⟩=>by cases h),rfl,hg⟩
end Mine
end
section
open PySem PyProof.Rows
set_option Elab.async false
namespace Mine
theorem compS_mapG {α:Type} {step:D→Store→(Option D→Store→Prop)→Prop} {keep:Store→Prop} {σ:Store} (g:α→D) (f:α→Option D) (hk:keep σ):∀ (l:List α) (acc:List D) {Ψ:List D→Store→Prop},(∀ x∈l,∀ K:Option D→Store→Prop,K (f x) σ→step (g x) σ K)→
    Ψ (acc++l.filterMap f) σ→compS step keep (l.map g) σ acc Ψ
  | [],acc,Ψ,_,h=>by simpa [compS] using h
  | d::ds,acc,Ψ,hs,h=>by
    simp only [List.map_cons,compS]
    refine hs d List.mem_cons_self _ ⟨hk,compS_mapG g f hk ds _ (fun e he=>hs e (List.mem_cons_of_mem _ he)) ?_⟩
    cases e:f d with
    | none=>simpa [List.filterMap_cons,e] using h
    | some y=>simpa [List.filterMap_cons,e] using h
theorem set_at (σ:Store) (a:Addr) (m:MObj):(σ.set a m) a=some m:=by unfold Store.set; rw [if_pos rfl]
set_option tactic.hygienic true in
theorem set_set (σ:Store) (a:Addr) (m n:MObj):(σ.set a m).set a n=σ.set a n:=by
  funext x
  unfold Store.set
  by_cases h:x=a
  · rw [if_pos h,if_pos h]
  · rw [if_neg h,if_neg h,if_neg h]
theorem retS_frz {Φ:D→Store→Prop} {a:Addr} {σ:Store} {ds:List D} (hf:freshIn σ a) (h:Φ (.list ds) σ):retS Φ (.ret (.obj a) (σ.set a (.mlist ds))):=by
  refine ⟨.list ds,σ,⟨fun x m e=>?_,.inr ⟨a,ds,rfl,set_at _ _ _,rfl,hf.1⟩⟩,h⟩
  unfold Store.set
  by_cases q:x=a
  · subst q; rw [hf.1] at e; cases e
  · rw [if_neg q]; exact e
theorem filterMap_int {α:Type} (f:α→Option Int):∀ l:List α,(l.filterMap fun x=>(f x).map D.int)=(l.filterMap f).map D.int
  | []=>rfl
  | x::r=>by
    rw [List.filterMap_cons,List.filterMap_cons]
    cases e:f x with
    | none=>simp only [Option.map_none]; exact filterMap_int f r
    | some i=>simp only [Option.map_some,List.map_cons]; rw [filterMap_int f r]
noncomputable def nxt (S:Nat→Spec) (X:Exs) (r:List PS) (Φ:Res→Prop):Res→Prop
  | .next ρ σ=>vcSs S X r ρ σ Φ
  | .ret d σ=>Φ (.ret d σ)
  | .brk ρ σ=>Φ (.brk ρ σ)
  | .cont ρ σ=>Φ (.cont ρ σ)
set_option tactic.hygienic true in
theorem vcSs_cons (S:Nat→Spec) (X:Exs) (s:PS) (r:List PS) (ρ:PEnv) (σ:Store) (Φ:Res→Prop):vcSs S X (s::r) ρ σ Φ=vcS S X s ρ σ (nxt S X r Φ):=by
  show vcS S X s ρ σ _=vcS S X s ρ σ _
  refine congrArg _ (funext fun res=>?_)
  cases res <;> rfl
set_option tactic.hygienic true in
theorem vcSs_app (S:Nat→Spec) (X:Exs) (r:List PS) (Φ:Res→Prop):∀ (b:List PS) (ρ:PEnv) (σ:Store),vcSs S X (b++r) ρ σ Φ=vcSs S X b ρ σ (nxt S X r Φ)
  | [],_,_=>rfl
  | s::b,ρ,σ=>by
    show vcSs S X (s::(b++r)) ρ σ Φ=_
    rw [vcSs_cons,vcSs_cons]
    refine congrArg _ (funext fun res=>?_)
    cases res with
    | next ρ' σ'=>exact vcSs_app S X r Φ b ρ' σ'
    | _=>rfl
section
variable {S:Nat→Spec} {X:Exs} {ρ:PEnv} {σ:Store} {Φ:Res→Prop} {Ψ:D→Store→Prop} {Θ:Bool→Store→Prop} {r:List PS} {p xp ap gp:Pos}
set_option tactic.hygienic true in
theorem s_nil (h:Φ (.next ρ σ)):vcSs S X [] ρ σ Φ:=h
theorem s_assign {x:Nat} {e:PE} (h:(vc S X e).v ρ σ fun d σ'=>vcSs S X r (ρ.put x d) σ' Φ):vcSs S X (.assign x xp e p::r) ρ σ Φ:=h
theorem s_expr {e:PE} (h:(vc S X e).v ρ σ fun _ σ'=>vcSs S X r ρ σ' Φ):vcSs S X (.expr e p::r) ρ σ Φ:=h
theorem s_ret {e:PE} (h:(vc S X e).v ρ σ fun d σ'=>Φ (.ret d σ')):vcSs S X (.ret e p::r) ρ σ Φ:=h
set_option tactic.hygienic true in
theorem s_ite {t:PE} {b o:List PS} (h:(vc S X t).t ρ σ fun c σ'=>cond c (vcSs S X (b++r) ρ σ' Φ) (vcSs S X (o++r) ρ σ' Φ)):vcSs S X (.ite t b o p::r) ρ σ Φ:=by
  rw [vcSs_cons]
  have e:(fun c σ'=>cond c (vcSs S X (b++r) ρ σ' Φ) (vcSs S X (o++r) ρ σ' Φ))=fun (c:Bool) σ'=>(c=true→vcSs S X b ρ σ' (nxt S X r Φ))∧(c=false→vcSs S X o ρ σ' (nxt S X r Φ)):=by
    funext c σ'
    rw [vcSs_app,vcSs_app]
    cases c <;> simp
  rw [e] at h
  exact h
theorem s_raise {C g:Nat} {x:Str} {mp cp:Pos} (h:X.x C σ):vcSs S X (.raise C g gp x mp cp p::r) ρ σ Φ:=h
theorem s_loop {x:Nat} {it:IT} {b:List PS} (h:vcI S X it ρ σ fun d ds σ₁=>forS (fun e ρ' σ' Ψ=>vcSs S X b (ρ'.put x e) σ' Ψ) (keepS d ds) ds ρ σ₁ (nxt S X r Φ)):vcSs S X (.loop x xp it b p::r) ρ σ Φ:=by
  rw [vcSs_cons]
  exact h
theorem s_try {b:List PS} {hs:List HD} (h:vcSs S ⟨fun C σ'=>vcHs S X hs ρ (nxt S X r Φ) C σ',Option.none⟩ b ρ σ (nxt S X r Φ)):vcSs S X (.try b hs p::r) ρ σ Φ:=by
  rw [vcSs_cons]
  exact h
theorem s_sattr {C:Nat} {o e:PE} {n:Str} (h:(vc S X e).v ρ σ fun d σ₁=>(vc S X o).v ρ σ₁ fun x σ₂=>setS C n x d σ₂ fun σ₃=>vcSs S X r ρ σ₃ Φ):vcSs S X (.sattr C o n ap e p::r) ρ σ Φ:=h
theorem s_ssub {o i e:PE} (h:(vc S X e).v ρ σ fun d σ₁=>(vc S X o).v ρ σ₁ fun x σ₂=>(vc S X i).v ρ σ₂ fun k σ₃=>stoS x k d σ₃ fun σ₄=>vcSs S X r ρ σ₄ Φ):vcSs S X (.ssub o i ap e p::r) ρ σ Φ:=h
set_option tactic.hygienic true in
theorem s_while {t:PE} {b:List PS} (J:Nat→PEnv→Store→Prop) {n:Nat} (h0:J n ρ σ) (h:∀ n ρ σ,J n ρ σ→(vc S X t).t ρ σ fun c σ'=>
      (c=true→vcSs S X b ρ σ' fun q=>match q with
        | .next ρ'' σ''=>∃ m,m<n∧J m ρ'' σ''
        | .cont ρ'' σ''=>∃ m,m<n∧J m ρ'' σ''
        | .brk ρ'' σ''=>vcSs S X r ρ'' σ'' Φ
        | .ret d σ''=>Φ (.ret d σ''))∧(c=false→vcSs S X r ρ σ' Φ)):vcSs S X (.while t b p::r) ρ σ Φ:=by
  rw [vcSs_cons]
  exact ⟨J,n,h0,h⟩
theorem setS_at {C:Nat} {n:Str} {a dx:Addr} {fs:List (Str×D)} {d:D} {K:Store→Prop} (ha:σ a=some (.inst C dx fs)) (hl:fs.length≤900) (h:K (σ.set a (.inst C dx (putF n d fs)))):setS C n (.obj a) d σ K:=⟨a,dx,fs,rfl,ha,hl,h⟩
theorem v_var {i:Nat} {d:D} (hi:ρ.at i=some d) (h:Ψ d σ):(vc S X (.var i p)).v ρ σ Ψ:=by
  show match ρ.at i with | some d=>Ψ d σ | Option.none=>False
  rw [hi]; exact h
theorem v_cint {i:Int} (h:Ψ (.int i) σ):(vc S X (.cint i p)).v ρ σ Ψ:=h
theorem v_bin {op:Operator} {l s:PE} (h:(vc S X l).v ρ σ fun a σ₁=>(vc S X s).v ρ σ₁ fun b σ₂=>binS op a b σ₂ Ψ):(vc S X (.bin op l s p)).v ρ σ Ψ:=h
theorem v_not {e:PE} (h:(vc S X e).v ρ σ fun d σ'=>truthS d σ' fun b σ''=>Ψ (.bool (!b)) σ''):(vc S X (.not e p)).v ρ σ Ψ:=h
theorem v_cmp {op:CmpOp} {l s:PE} (h:(vc S X l).v ρ σ fun a σ₁=>(vc S X s).v ρ σ₁ fun b σ₂=>cmpS op a b σ₂ Ψ):(vc S X (.cmp op l s p)).v ρ σ Ψ:=h
theorem v_call {g:Nat} {es:List PE} (h:argsV (vcL S X es) ρ σ fun ds σ'=>S g ds σ' Ψ X.x):(vc S X (.call g gp es p)).v ρ σ Ψ:=h
theorem v_bi {b:BI} {m:Bool} {g:Nat} {es:List PE} (h:argsV (vcL S X es) ρ σ fun ds σ'=>biS b m ds σ' Ψ):(vc S X (.bi b m g gp es p)).v ρ σ Ψ:=h
theorem v_attr {C i:Nat} {n:Str} {a dx:Addr} {fs:List (Str×D)} {x:D} {ip:Pos} (hi:ρ.at i=some (.obj a)) (ha:σ a=some (.inst C dx fs)) (hf:getF n fs=some x) (h:Ψ x σ):(vc S X (.attr C (.var i ip) n p)).v ρ σ Ψ:=
  v_var (S:=S) (X:=X) (p:=ip) (Ψ:=fun d σ'=>attrS C n d σ' Ψ) hi ⟨a,dx,fs,x,rfl,ha,hf,h⟩
theorem v_meth {C g i:Nat} {n:Str} {a dx:Addr} {fs:List (Str×D)} {es:List PE} {ip:Pos} (hi:ρ.at i=some (.obj a)) (ha:σ a=some (.inst C dx fs)) (hf:getF n fs=none) (h:argsV (vcL S X es) ρ σ fun ds σ₂=>S g (.obj a::ds) σ₂ Ψ X.x):(vc S X (.meth C g (.var i ip) n ap es p)).v ρ σ Ψ:=
  v_var (S:=S) (X:=X) (p:=ip) (Ψ:=fun d σ₁=>instS C n d σ₁∧argsV (vcL S X es) ρ σ₁ fun ds σ₂=>S g (d::ds) σ₂ Ψ X.x) hi ⟨⟨a,dx,fs,rfl,ha,hf⟩,h⟩
theorem v_lm {k:LM} {o:PE} {es:List PE} (h:(vc S X o).v ρ σ fun d σ₁=>lmOk k d σ₁∧argsV (vcL S X es) ρ σ₁ fun ds σ₂=>lmS k d ds σ₂ Ψ):(vc S X (.lm k o ap es p)).v ρ σ Ψ:=h
theorem v_sub {o i:PE} (h:(vc S X o).v ρ σ fun a σ₁=>(vc S X i).v ρ σ₁ fun b σ₂=>subS a b σ₂ Ψ):(vc S X (.sub o i p)).v ρ σ Ψ:=h
theorem v_subd {o i:PE} (h:(vc S X o).v ρ σ fun a σ₁=>(vc S X i).v ρ σ₁ fun b σ₂=>subdS a b σ₂ Ψ):(vc S X (.subd o i p)).v ρ σ Ψ:=h
theorem v_list {es:List PE} (h:argsV (vcL S X es) ρ σ fun ds σ'=>Nat.ble ds.length small=true∧Ψ (.list ds) σ'):(vc S X (.list false es p)).v ρ σ Ψ:=h
theorem v_mlist {es:List PE} (h:argsV (vcL S X es) ρ σ fun ds σ'=>Nat.ble ds.length small=true∧∀ a,freshIn σ' a→Ψ (.obj a) (σ'.set a (.mlist ds))):(vc S X (.list true es p)).v ρ σ Ψ:=h
theorem v_tup {es:List PE} {k:Nat} (h:argsV (vcL S X es) ρ σ fun ds σ'=>Nat.ble ds.length small=true∧Ψ (.tuple ds) σ'):(vc S X (.tup es k p)).v ρ σ Ψ:=h
theorem v_isi {e:PE} {ty:TY} {g gt:Nat} {tp:Pos} (h:(vc S X e).v ρ σ fun d σ'=>∃ t,tyS ty d σ'=some t∧Ψ (.bool t) σ'):(vc S X (.isi e ty g gp gt tp p)).v ρ σ Ψ:=h
theorem subS_at {o:D} {xs:List D} {k:Nat} {d:D} (ho:asL σ o=some xs) (hl:xs.length≤small) (hk:xs[k]?=some d) (h:Ψ d σ):subS o (.int k) σ Ψ:=⟨xs,ho,hl,.inl ⟨by omega,d,by simpa using hk,h⟩⟩
theorem subS_last {o:D} {xs:List D} {d:D} (ho:asL σ o=some xs) (hl:xs.length≤small) (hk:xs.getLast?=some d) (h:Ψ d σ):subS o (.int (-1)) σ Ψ:=⟨xs,ho,hl,.inr ⟨rfl,d,hk,h⟩⟩
theorem len_at {o:D} {xs:List D} {m:Bool} (ho:asL σ o=some xs) (hl:xs.length≤small) (h:Ψ (.int xs.length) σ):biS .len m [o] σ Ψ:=⟨xs,ho,hl,h⟩
theorem a_nil {K:List D→Store→Prop} (h:K [] σ):argsV (vcL S X []) ρ σ K:=h
theorem a_cons {e:PE} {es:List PE} {K:List D→Store→Prop} (h:(vc S X e).v ρ σ fun d σ'=>argsV (vcL S X es) ρ σ' fun ds σ''=>K (d::ds) σ''):argsV (vcL S X (e::es)) ρ σ K:=h
theorem a_var {i:Nat} {d:D} {es:List PE} {K:List D→Store→Prop} (hi:ρ.at i=some d) (h:argsV (vcL S X es) ρ σ fun ds σ''=>K (d::ds) σ''):argsV (vcL S X (.var i p::es)) ρ σ K:=v_var (S:=S) (X:=X) (p:=p) (Ψ:=fun d σ'=>argsV (vcL S X es) ρ σ' fun ds σ''=>K (d::ds) σ'') hi h
theorem i_of {e:PE} {K:D→List D→Store→Prop} (h:(vc S X e).v ρ σ fun d σ'=>∃ ds,asL σ' d=some ds∧K d ds σ'):vcI S X (.of e) ρ σ K:=h
theorem i_var {i:Nat} {d:D} {ds:List D} {K:D→List D→Store→Prop} (hi:ρ.at i=some d) (hd:asL σ d=some ds) (h:K d ds σ):vcI S X (.of (.var i p)) ρ σ K:=v_var (S:=S) (X:=X) (p:=p) (Ψ:=fun d σ'=>∃ ds,asL σ' d=some ds∧K d ds σ') hi ⟨ds,hd,h⟩
theorem i_range {g:Nat} {e:PE} {K:D→List D→Store→Prop} (h:(vc S X e).v ρ σ fun d σ'=>match d with | .int n=>n≤small ∧ -small≤n∧K .none (rangeD n) σ' | _=>False):vcI S X (.range g gp e p) ρ σ K:=h
theorem t_not {e:PE} (h:(vc S X e).t ρ σ fun b σ'=>Θ (!b) σ'):(vc S X (.not e p)).t ρ σ Θ:=h
theorem t_cmp {op:CmpOp} {l s:PE} (h:(vc S X l).v ρ σ fun a σ₁=>(vc S X s).v ρ σ₁ fun b σ₂=>cmpS op a b σ₂ fun d σ'=>truthS d σ' Θ):(vc S X (.cmp op l s p)).t ρ σ Θ:=h
theorem t_call {g:Nat} {es:List PE} (h:argsV (vcL S X es) ρ σ fun ds σ'=>S g ds σ' (fun d σ'=>truthS d σ' Θ) X.x):(vc S X (.call g gp es p)).t ρ σ Θ:=h
theorem t_isi {e:PE} {ty:TY} {g gt:Nat} {tp:Pos} (h:(vc S X e).v ρ σ fun d σ'=>∃ t,tyS ty d σ'=some t∧Θ t σ'):(vc S X (.isi e ty g gp gt tp p)).t ρ σ Θ:=h
theorem t_and {e f:PE} (h:(vc S X e).t ρ σ fun b σ'=>(b=false→Θ false σ')∧(b=true→(vc S X f).t ρ σ' fun b σ''=>(b=false→Θ false σ'')∧(b=true→Θ true σ''))):(vc S X (.bop .And [e,f] p)).t ρ σ Θ:=h
end
theorem kF {b:Bool} {X Y:Prop} (hb:b=false) (h:Y):(b=true→X)∧(b=false→Y):=⟨fun q=>(by rw [hb] at q; cases q),fun _=>h⟩
theorem kT {b:Bool} {X Y:Prop} (hb:b=true) (h:X):(b=true→X)∧(b=false→Y):=⟨fun _=>h,fun q=>(by rw [hb] at q; cases q)⟩
theorem kF' {b:Bool} {X Y:Prop} (hb:b=false) (h:X):(b=false→X)∧(b=true→Y):=⟨fun _=>h,fun q=>(by rw [hb] at q; cases q)⟩
theorem kT' {b:Bool} {X Y:Prop} (hb:b=true) (h:Y):(b=false→X)∧(b=true→Y):=⟨fun q=>(by rw [hb] at q; cases q),fun _=>h⟩
noncomputable def posB:Int→Bool
  | .ofNat n=>Nat.ble 1 n&&Nat.ble n (10 ^ 49)
  | _=>false
noncomputable def iv:D→Option Int
  | .int x=>some x
  | _=>none
noncomputable def two {α:Type} (a b:D) (f:Int→Int→α):Option α:=(iv a).bind fun x=>(iv b).map fun y=>f x y
noncomputable def ar (op:Operator) (a b:D):Option D:=match op with
  | .Add=>two a b fun x y => .int (x+y)
  | .Sub=>two a b fun x y => .int (x - y)
  | .Mod=>(iv b).bind fun y=>cond (posB y) (two a b fun x y => .int (x%y)) none
  | .FloorDiv=>(iv b).bind fun y=>cond (posB y) (two a b fun x y => .int (x / y)) none
  | _=>none
noncomputable def cp (op:CmpOp) (a b:D):Option Bool:=match op with
  | .Is=>bif (isNone b).getD false then isNone a else none
  | .IsNot=>bif (isNone b).getD false then (isNone a).map (!·) else none
  | .Lt=>two a b fun x y=>decide (x<y)
  | .LtE=>two a b fun x y=>decide (x≤y)
  | .Gt=>two a b fun x y=>decide (x > y)
  | .GtE=>two a b fun x y=>decide (x ≥ y)
  | .Eq=>two a b fun x y=>decide (x=y)
  | .NotEq=>two a b fun x y=>!decide (x=y)
  | _=>none
noncomputable def bl:D→Option Bool
  | .bool b=>some b
  | _=>none
noncomputable def bo (op:BoolOp):List D→Option Bool
  | []=>none
  | [d]=>bl d
  | d::e::r=>(bl d).bind fun b=>(bo op (e::r)).map fun c=>match op with
    | .And=>b&&c
    | .Or=>b || c
noncomputable def tl:D→Option (List D)
  | .tuple xs=>some xs
  | .list xs=>some xs
  | _=>none
noncomputable def sb (a b:D):Option D:=(tl a).bind fun xs=>(iv b).bind fun i=>match i with
  | .ofNat k=>cond (Nat.ble xs.length small) xs[k]? none
  | _=>none
mutual
noncomputable def ev (ρ:PEnv):PE→Option D
  | .var i _=>ρ.at i
  | .cint i _=>some (.int i)
  | .cnone _=>some .none
  | .cbool b _=>some (.bool b)
  | .cstr x _=>some (.str x)
  | .gint _ i _=>some (.int i)
  | .neg e _=>(ev ρ e).bind fun d=>match d with
    | .int i=>some (.int (-i))
    | _=>none
  | .bin op l r _=>(ev ρ l).bind fun a=>(ev ρ r).bind fun b=>ar op a b
  | .cmp op l r _=>(ev ρ l).bind fun a=>(ev ρ r).bind fun b=>(cp op a b).map .bool
  | .cmp2 o₁ o₂ a b c _=>(ev ρ a).bind fun x=>(ev ρ b).bind fun y=>(ev ρ c).bind fun z=>(cp o₁ x y).bind fun s=>(cp o₂ y z).map fun t => .bool (s&&t)
  | .not e _=>(ev ρ e).bind fun d=>(bl d).map fun b => .bool (!b)
  | .bop op es _=>(evL ρ es).bind fun ds=>(bo op ds).map .bool
  | .sub o i _=>(ev ρ o).bind fun a=>(ev ρ i).bind fun b=>sb a b
  | .intb e _ _ _=>(ev ρ e).bind fun d=>(bl d).map fun b => .int (if b then 1 else 0)
  | .list false es _=>(evL ρ es).bind fun ds=>cond (Nat.ble ds.length small) (some (.list ds)) none
  | .tup es _ _=>(evL ρ es).bind fun ds=>cond (Nat.ble ds.length small) (some (.tuple ds)) none
  | _=>none
noncomputable def evL (ρ:PEnv):List PE→Option (List D)
  | []=>some []
  | e::r=>(ev ρ e).bind fun d=>(evL ρ r).map fun ds=>d::ds
end
theorem bnd {α β:Type} {o:Option α} {f:α→Option β} {b:β} (h:o.bind f=some b):∃ a,o=some a∧f a=some b:=Option.bind_eq_some_iff.mp h
theorem mpd {α β:Type} {o:Option α} {f:α→β} {b:β} (h:o.map f=some b):∃ a,o=some a∧f a=b:=Option.map_eq_some_iff.mp h
theorem cnS {α:Type} {c:Bool} {a b:α} (h:(bif c then some a else none)=some b):c=true∧a=b:=by
  cases c
  · cases h
  · exact ⟨rfl,Option.some.inj h⟩
theorem posB_ok {y:Int} (h:posB y=true):0<y∧y<10 ^ 50:=by
  cases y with
  | ofNat n=>
    have:=Bool.and_eq_true_iff.mp h
    have h1:=Nat.le_of_ble_eq_true this.1
    have h2:=Nat.le_of_ble_eq_true this.2
    constructor
    · exact Int.natCast_pos.mpr h1
    · have:((10 ^ 49:Nat):Int)<10 ^ 50:=by decide
      exact Int.lt_of_le_of_lt (Int.ofNat_le.mpr h2) this
  | negSucc n=>cases h
theorem bl_of {d:D} {b:Bool} (h:bl d=some b):d = .bool b:=by
  cases d with
  | bool c=>cases h; rfl
  | _=>cases h
theorem iv_of {d:D} {x:Int} (h:iv d=some x):d = .int x:=by
  cases d with
  | int c=>cases h; rfl
  | _=>cases h
theorem two_of {α:Type} {a b:D} {f:Int→Int→α} {t:α} (h:two a b f=some t):∃ x y,a = .int x∧b = .int y∧f x y=t:=by
  obtain ⟨x,hx,h⟩:=bnd h
  obtain ⟨y,hy,h⟩:=mpd h
  exact ⟨x,y,iv_of hx,iv_of hy,h⟩
theorem cn0 {α:Type} {c:Bool} {a:Option α} {b:α} (h:(bif c then a else none)=some b):c=true∧a=some b:=by
  cases c
  · cases h
  · exact ⟨rfl,h⟩
theorem nn_of {d:D} (h:(isNone d).getD false=true):d = .none:=by
  cases d with
  | none=>rfl
  | _=>cases h
theorem ar_ok {op:Operator} {a b d:D} {σ:Store} {Ψ:D→Store→Prop} (h:ar op a b=some d) (k:Ψ d σ):binS op a b σ Ψ:=by
  cases op with
  | Add=>obtain ⟨x,y,rfl,rfl,rfl⟩:=two_of h; exact k
  | Sub=>obtain ⟨x,y,rfl,rfl,rfl⟩:=two_of h; exact k
  | Mod=>
    obtain ⟨z,hz,h⟩:=bnd h
    obtain ⟨q,h⟩:=cn0 h
    obtain ⟨x,y,rfl,rfl,rfl⟩:=two_of h
    cases hz
    exact ⟨(posB_ok q).1,k⟩
  | FloorDiv=>
    obtain ⟨z,hz,h⟩:=bnd h
    obtain ⟨q,h⟩:=cn0 h
    obtain ⟨x,y,rfl,rfl,rfl⟩:=two_of h
    cases hz
    exact ⟨posB_ok q,k⟩
  | _=>cases h
theorem cp_ok {op:CmpOp} {a b:D} {t:Bool} {σ:Store} {Ψ:D→Store→Prop} (h:cp op a b=some t) (k:Ψ (.bool t) σ):cmpS op a b σ Ψ:=by
  cases op with
  | Is=>obtain ⟨q,h⟩:=cn0 h; rw [nn_of q]; exact ⟨t,h,k⟩
  | IsNot=>obtain ⟨q,h⟩:=cn0 h; rw [nn_of q]; obtain ⟨s,q2,rfl⟩:=mpd h; exact ⟨s,q2,k⟩
  | In=>cases h
  | NotIn=>cases h
  | _=>obtain ⟨x,y,rfl,rfl,rfl⟩:=two_of h; exact k
theorem tl_of {d:D} {xs:List D} (σ:Store) (h:tl d=some xs):asL σ d=some xs:=by
  cases d with
  | tuple c=>cases h; rfl
  | list c=>cases h; rfl
  | _=>cases h
theorem sb_ok {a b d:D} {σ:Store} {Ψ:D→Store→Prop} (h:sb a b=some d) (k:Ψ d σ):subS a b σ Ψ:=by
  obtain ⟨xs,ha,h⟩:=bnd h
  obtain ⟨i,hi,h⟩:=bnd h
  cases iv_of hi
  cases i with
  | ofNat n=>
    obtain ⟨q,h⟩:=cn0 h
    exact ⟨xs,tl_of σ ha,Nat.le_of_ble_eq_true q,.inl ⟨Int.natCast_nonneg n,d,h,k⟩⟩
  | negSucc n=>cases h
structure OkE (x:VT) (ρ:PEnv) (d:D):Prop where
  v:∀ {σ:Store} {Ψ:D→Store→Prop},Ψ d σ→x.v ρ σ Ψ
  t:∀ {σ:Store} {b:Bool} {Θ:Bool→Store→Prop},d = .bool b→Θ b σ→x.t ρ σ Θ
theorem okOf {f:ETr} {ρ:PEnv} {d:D} (h:∀ {σ:Store} {Ψ:D→Store→Prop},Ψ d σ→f ρ σ Ψ):OkE (VT.of f) ρ d:=
  ⟨h,fun {σ b Θ} e k=>h (Ψ:=fun d σ'=>truthS d σ' Θ) (by subst e; exact k)⟩
structure OkL (S:Nat→Spec) (X:Exs) (es:List PE) (ρ:PEnv) (ds:List D):Prop where
  a:∀ {σ:Store} {K:List D→Store→Prop},K ds σ→argsV (vcL S X es) ρ σ K
  v:∀ {op:BoolOp} {b:Bool},bo op ds=some b→∀ {σ:Store} {Ψ:D→Store→Prop},Ψ (.bool b) σ→bopV op (vcL S X es) ρ σ Ψ
  t:∀ {op:BoolOp} {b:Bool},bo op ds=some b→∀ {σ:Store} {Θ:Bool→Store→Prop},Θ b σ→bopT op (vcL S X es) ρ σ Θ
noncomputable def OkEv (S:Nat→Spec) (X:Exs) (ρ:PEnv) (e:PE):Prop:=∀ {d:D},ev ρ e=some d→OkE (vc S X e) ρ d
noncomputable def OkEs (S:Nat→Spec) (X:Exs) (ρ:PEnv) (es:List PE):Prop:=∀ {ds:List D},evL ρ es=some ds→OkL S X es ρ ds
mutual
theorem ev_ok {S:Nat→Spec} {X:Exs} {ρ:PEnv}:∀ (e:PE),OkEv S X ρ e
  | .var i _=>fun h=>okOf fun k=>by
    have q:ρ.at i=_:=h
    rw [q]; exact k
  | .cint _ _=>fun h=>okOf fun k=>by cases h; exact k
  | .cnone _=>fun h=>okOf fun k=>by cases h; exact k
  | .cbool _ _=>fun h=>okOf fun k=>by cases h; exact k
  | .cstr _ _=>fun h=>okOf fun k=>by cases h; exact k
  | .gint _ _ _=>fun h=>okOf fun k=>by cases h; exact k
  | .neg e _=>fun h=>okOf fun k=>by
    obtain ⟨a,ha,h⟩:=bnd h
    refine (ev_ok e ha).v ?_
    cases a with
    | int i=>cases h; exact k
    | _=>cases h
  | .bin op l r _=>fun h=>okOf fun k=>by
    obtain ⟨a,ha,h⟩:=bnd h
    obtain ⟨b,hb,h⟩:=bnd h
    exact (ev_ok l ha).v ((ev_ok r hb).v (ar_ok h k))
  | .cmp op l r _=>fun h=>okOf fun k=>by
    obtain ⟨a,ha,h⟩:=bnd h
    obtain ⟨b,hb,h⟩:=bnd h
    obtain ⟨t,ht,rfl⟩:=mpd h
    exact (ev_ok l ha).v ((ev_ok r hb).v (cp_ok ht k))
  | .cmp2 o₁ o₂ a b c _=>fun h=>okOf fun k=>by
    obtain ⟨x,hx,h⟩:=bnd h
    obtain ⟨y,hy,h⟩:=bnd h
    obtain ⟨z,hz,h⟩:=bnd h
    obtain ⟨s,hs,h⟩:=bnd h
    obtain ⟨t,ht,rfl⟩:=mpd h
    refine (ev_ok a hx).v ((ev_ok b hy).v (cp_ok hs ⟨fun q=>?_,fun q=>?_⟩))
    · subst q; exact k
    · subst q; exact (ev_ok c hz).v (cp_ok ht k)
  | .not e _=>fun h=>by
    obtain ⟨a,ha,h⟩:=bnd h
    obtain ⟨b,hb,rfl⟩:=mpd h
    have z:=ev_ok (S:=S) (X:=X) e ha
    exact ⟨fun k=>z.v (by cases bl_of hb; exact k),fun e k=>z.t (bl_of hb) (by cases e; exact k)⟩
  | .bop op es _=>fun h=>by
    obtain ⟨ds,ha,h⟩:=bnd h
    obtain ⟨b,hb,rfl⟩:=mpd h
    have z:=ev_l (S:=S) (X:=X) es ha
    exact ⟨fun k=>z.v hb k,fun e k=>z.t hb (by cases e; exact k)⟩
  | .sub o i _=>fun h=>okOf fun k=>by
    obtain ⟨a,ha,h⟩:=bnd h
    obtain ⟨b,hb,h⟩:=bnd h
    exact (ev_ok o ha).v ((ev_ok i hb).v (sb_ok h k))
  | .intb e _ _ _=>fun h=>okOf fun k=>by
    obtain ⟨a,ha,h⟩:=bnd h
    obtain ⟨b,hb,rfl⟩:=mpd h
    exact (ev_ok e ha).v (by cases bl_of hb; exact k)
  | .list false es _=>fun h=>okOf fun k=>by
    obtain ⟨ds,ha,h⟩:=bnd h
    obtain ⟨hb,rfl⟩:=cnS h
    exact (ev_l es ha).a ⟨hb,k⟩
  | .tup es _ _=>fun h=>okOf fun k=>by
    obtain ⟨ds,ha,h⟩:=bnd h
    obtain ⟨hb,rfl⟩:=cnS h
    exact (ev_l es ha).a ⟨hb,k⟩
  | .call _ _ _ _=>fun h=>nomatch h
  | .bi _ _ _ _ _ _=>fun h=>nomatch h
  | .isi _ _ _ _ _ _ _=>fun h=>nomatch h
  | .isi2 _ _ _ _ _ _ _ _ _ _=>fun h=>nomatch h
  | .isx _ _ _ _ _ _ _ _ _=>fun h=>nomatch h
  | .slc _ _ _ _ _ _=>fun h=>nomatch h
  | .list true _ _=>fun h=>nomatch h
  | .mmd _ _ _ _ _ _ _=>fun h=>nomatch h
  | .sset _ _ _ _ _ _ _=>fun h=>nomatch h
  | .app _ _ _ _=>fun h=>nomatch h
  | .lset _ _ _ _ _ _ _=>fun h=>nomatch h
  | .attr _ _ _ _=>fun h=>nomatch h
  | .meth _ _ _ _ _ _ _=>fun h=>nomatch h
  | .new _ _ _ _ _ _=>fun h=>nomatch h
  | .lm _ _ _ _ _=>fun h=>nomatch h
  | .dct _=>fun h=>nomatch h
  | .subd _ _ _=>fun h=>nomatch h
  | .comp _ _ _ _ _ _ _ _ _=>fun h=>nomatch h
theorem ev_l {S:Nat→Spec} {X:Exs} {ρ:PEnv}:∀ (es:List PE),OkEs S X ρ es
  | []=>fun h=>by cases h; exact ⟨fun k=>k,fun q=>(by cases q),fun q=>(by cases q)⟩
  | e :: r=>fun h=>by
    obtain ⟨a,ha,h⟩:=bnd h
    obtain ⟨ds,hd,rfl⟩:=mpd h
    have i:=ev_l (S:=S) (X:=X) r hd
    have z:=ev_ok (S:=S) (X:=X) e ha
    refine ⟨fun k=>z.v (i.a k),fun {op b} q {σ Ψ} k=>?_,fun {op b} q {σ Θ} k=>?_⟩
    · cases ds with
      | nil=>cases r with
        | nil=>cases bl_of q; exact z.v k
        | cons x r=>obtain ⟨_,_,z⟩:=bnd hd; obtain ⟨_,_,z⟩:=mpd z; cases z
      | cons d ds=>cases r with
        | nil=>cases hd
        | cons x r=>
          obtain ⟨b,hb,q1⟩:=bnd q
          obtain ⟨c,hc,q2⟩:=mpd q1
          subst q2
          cases op
          · exact z.v (by cases bl_of hb; exact ⟨fun z=>by subst z; exact k,fun z=>by subst z; exact i.v hc k⟩)
          · exact z.v (by cases bl_of hb; exact ⟨fun z=>by subst z; exact k,fun z=>by subst z; exact i.v hc k⟩)
    · cases ds with
      | nil=>cases r with
        | nil => cases op
                 · exact z.t (bl_of q) ⟨fun z=>z▸k,fun z=>by subst z; exact k⟩
                 · exact z.t (bl_of q) ⟨fun z=>z▸k,fun z=>by subst z; exact k⟩
        | cons x r=>obtain ⟨_,_,z⟩:=bnd hd; obtain ⟨_,_,z⟩:=mpd z; cases z
      | cons d ds=>
        obtain ⟨b,hb,q1⟩:=bnd q
        obtain ⟨c,hc,q2⟩:=mpd q1
        subst q2
        cases op
        · exact z.t (bl_of hb) ⟨fun z=>by subst z; exact k,fun z=>by subst z; exact i.t hc k⟩
        · exact z.t (bl_of hb) ⟨fun z=>by subst z; exact k,fun z=>by subst z; exact i.t hc k⟩
end
section
variable {S:Nat→Spec} {X:Exs} {ρ:PEnv} {σ:Store} {Ψ:D→Store→Prop} {Θ:Bool→Store→Prop}
theorem vE {e:PE} {d:D} (he:ev ρ e=some d) (h:Ψ d σ):(vc S X e).v ρ σ Ψ:=(ev_ok e he).v h
theorem tE {e:PE} {b:Bool} (he:ev ρ e=some (.bool b)) (h:Θ b σ):(vc S X e).t ρ σ Θ:=(ev_ok e he).t rfl h
theorem aE {es:List PE} {ds:List D} {K:List D→Store→Prop} (he:evL ρ es=some ds) (h:K ds σ):argsV (vcL S X es) ρ σ K:=(ev_l es he).a h
end
end Mine
end
section
open PySem PyProof.Rows
set_option Elab.async false
set_option maxRecDepth 20000
namespace Mine.L08
noncomputable abbrev P (l a b:Nat):Pos:=⟨l,a,l,b⟩
def nm_is_whole (i:Nat):Str:=(["thing"]:List Str).getD i ""
noncomputable def p_is_whole:List PS:=[.ret (.bop .And [(.isi (.var 0 (P 20 22 27)) .int 0 (P 20 11 21) 1 (P 20 29 32) (P 20 11 33)),(.not (.isi (.var 0 (P 20 54 59)) .bool 0 (P 20 43 53) 2 (P 20 61 65) (P 20 43 66)) (P 20 39 66))] (P 20 11 67)) (P 20 4 67)]
noncomputable def nm_less (i:Nat):Str:=(["one", "other", "at"]:List Str).getD i ""
noncomputable def p_less:List PS:=[.loop 2 (P 22 8 10) (.range 3 (P 22 14 19) (.bi .min2 false 4 (P 22 20 23) [(.bi .len false 5 (P 22 24 27) [(.var 0 (P 22 28 31))] (P 22 24 32)),(.bi .len false 5 (P 22 34 37) [(.var 1 (P 22 38 43))] (P 22 34 44))] (P 22 20 45)) (P 22 14 46)) [.ite (.cmp .NotEq (.sub (.var 0 (P 23 11 14)) (.var 2 (P 23 15 17)) (P 23 11 18)) (.sub (.var 1 (P 23 22 27)) (.var 2 (P 23 28 30)) (P 23 22 31)) (P 23 11 31)) [.ret (.cmp .Lt (.sub (.var 0 (P 24 19 22)) (.var 2 (P 24 23 25)) (P 24 19 26)) (.sub (.var 1 (P 24 29 34)) (.var 2 (P 24 35 37)) (P 24 29 38)) (P 24 19 38)) (P 24 12 38)] [] ⟨23,8,24,38⟩] ⟨22,4,24,38⟩,
    .ret (.cmp .Lt (.bi .len false 5 (P 25 11 14) [(.var 0 (P 25 15 18))] (P 25 11 19)) (.bi .len false 5 (P 25 22 25) [(.var 1 (P 25 26 31))] (P 25 22 32)) (P 25 11 32)) (P 25 4 32)]
noncomputable def nm_below (i:Nat):Str:=(["rows", "key", "low", "high", "middle"]:List Str).getD i ""
noncomputable def p_below:List PS:=[.assign 2 (P 27 4 7) (.cint 0 (P 27 10 11)) (P 27 4 11),
    .assign 3 (P 28 4 8) (.bi .len false 5 (P 28 11 14) [(.var 0 (P 28 15 19))] (P 28 11 20)) (P 28 4 20),
    .while (.cmp .Lt (.var 2 (P 29 10 13)) (.var 3 (P 29 16 20)) (P 29 10 20)) [.assign 4 (P 30 8 14) (.bin .FloorDiv (.bin .Add (.var 2 (P 30 18 21)) (.var 3 (P 30 24 28)) (P 30 18 28)) (.cint 2 (P 30 33 34)) (P 30 17 34)) (P 30 8 34),
    .ite (.call 6 (P 31 11 15) [(.sub (.var 0 (P 31 16 20)) (.var 4 (P 31 21 27)) (P 31 16 28)),(.var 1 (P 31 30 33))] (P 31 11 34)) [.assign 2 (P 32 12 15) (.bin .Add (.var 4 (P 32 18 24)) (.cint 1 (P 32 27 28)) (P 32 18 28)) (P 32 12 28)] [.assign 3 (P 34 12 16) (.var 4 (P 34 19 25)) (P 34 12 25)] ⟨31,8,34,25⟩] ⟨29,4,34,25⟩,
    .ret (.var 2 (P 35 11 14)) (P 35 4 14)]
noncomputable def nm_fits (i:Nat):Str:=(["row", "wish", "triple", "there"]:List Str).getD i ""
noncomputable def p_fits:List PS:=[.loop 2 (P 38 8 14) (.of (.var 1 (P 38 18 22))) [.assign 3 (P 39 8 13) (.sub (.var 0 (P 39 16 19)) (.sub (.var 2 (P 39 20 26)) (.cint 0 (P 39 27 28)) (P 39 20 29)) (P 39 16 30)) (P 39 8 30),
    .ite (.bop .And [(.cmp .IsNot (.sub (.var 2 (P 40 11 17)) (.cint 1 (P 40 18 19)) (P 40 11 20)) (.cnone (P 40 28 32)) (P 40 11 32)),(.cmp .Lt (.var 3 (P 40 37 42)) (.sub (.var 2 (P 40 45 51)) (.cint 1 (P 40 52 53)) (P 40 45 54)) (P 40 37 54))] (P 40 11 54)) [.ret (.cbool false (P 41 19 24)) (P 41 12 24)] [] ⟨40,8,41,24⟩,
    .ite (.bop .And [(.cmp .IsNot (.sub (.var 2 (P 42 11 17)) (.cint 2 (P 42 18 19)) (P 42 11 20)) (.cnone (P 42 28 32)) (P 42 11 32)),(.cmp .Gt (.var 3 (P 42 37 42)) (.sub (.var 2 (P 42 45 51)) (.cint 2 (P 42 52 53)) (P 42 45 54)) (P 42 37 54))] (P 42 11 54)) [.ret (.cbool false (P 43 19 24)) (P 43 12 24)] [] ⟨42,8,43,24⟩] ⟨38,4,43,24⟩,
    .ret (.cbool true (P 44 11 15)) (P 44 4 15)]
noncomputable def nm_merged (i:Nat):Str:=(["wish", "found", "column", "lows", "highs", "triple", "triple", "triple"]:List Str).getD i ""
noncomputable def p_merged:List PS:=[.assign 1 (P 46 4 9) (.list true [] (P 46 12 14)) (P 46 4 14),
    .loop 2 (P 47 8 14) (.of (.sset 7 (P 47 18 24) 8 (P 47 25 28) (.comp false (.sub (.var 5 (P 47 30 36)) (.cint 0 (P 47 37 38)) (P 47 30 39)) 5 (P 47 44 50) (.of (.var 0 (P 47 54 58))) [] { kind := .function,names:=[(".0",.local),("triple",.local)],isGenerator:=false,isCoroutine:=false,more:=[] } [] (P 47 29 59)) (P 47 25 60) (P 47 18 61))) [.assign 3 (P 48 8 12) (.comp false (.sub (.var 6 (P 48 16 22)) (.cint 1 (P 48 23 24)) (P 48 16 25)) 6 (P 48 30 36) (.of (.var 0 (P 48 40 44))) [(.bop .And [(.cmp .Eq (.sub (.var 6 (P 48 48 54)) (.cint 0 (P 48 55 56)) (P 48 48 57)) (.var 2 (P 48 61 67)) (P 48 48 67)),(.cmp .IsNot (.sub (.var 6 (P 48 72 78)) (.cint 1 (P 48 79 80)) (P 48 72 81)) (.cnone (P 48 89 93)) (P 48 72 93))] (P 48 48 93))] { kind := .function,names:=[(".0",.local),("triple",.local),("column",.free)],isGenerator:=false,isCoroutine:=false,more:=[] } [2] (P 48 15 94)) (P 48 8 94),
    .assign 4 (P 49 8 13) (.comp false (.sub (.var 7 (P 49 17 23)) (.cint 2 (P 49 24 25)) (P 49 17 26)) 7 (P 49 31 37) (.of (.var 0 (P 49 41 45))) [(.bop .And [(.cmp .Eq (.sub (.var 7 (P 49 49 55)) (.cint 0 (P 49 56 57)) (P 49 49 58)) (.var 2 (P 49 62 68)) (P 49 49 68)),(.cmp .IsNot (.sub (.var 7 (P 49 73 79)) (.cint 2 (P 49 80 81)) (P 49 73 82)) (.cnone (P 49 90 94)) (P 49 73 94))] (P 49 49 94))] { kind := .function,names:=[(".0",.local),("triple",.local),("column",.free)],isGenerator:=false,isCoroutine:=false,more:=[] } [2] (P 49 16 95)) (P 49 8 95),
    .expr (.app (.var 1 (P 50 8 13)) (P 50 8 20) (.tup [(.var 2 (P 50 22 28)),(.mmd true 9 (P 50 30 33) (.var 3 (P 50 34 38)) (P 50 48 52) (P 50 40 52) (P 50 30 53)),(.mmd false 4 (P 50 55 58) (.var 4 (P 50 59 64)) (P 50 74 78) (P 50 66 78) (P 50 55 79))] 0 (P 50 21 80)) (P 50 8 81)) (P 50 8 81)] ⟨47,4,50,81⟩,
    .ret (.var 1 (P 51 11 16)) (P 51 4 16)]
noncomputable def nm_triple_of (i:Nat):Str:=(["wish", "column", "triple"]:List Str).getD i ""
noncomputable def p_triple_of:List PS:=[.loop 2 (P 54 8 14) (.of (.var 0 (P 54 18 22))) [.ite (.cmp .Eq (.sub (.var 2 (P 55 11 17)) (.cint 0 (P 55 18 19)) (P 55 11 20)) (.var 1 (P 55 24 30)) (P 55 11 30)) [.ret (.var 2 (P 56 19 25)) (P 56 12 25)] [] ⟨55,8,56,25⟩] ⟨54,4,56,25⟩,
    .ret (.cnone (P 57 11 15)) (P 57 4 15)]
noncomputable def nm_Kept___init__ (i:Nat):Str:=(["self", "columns"]:List Str).getD i ""
noncomputable def p_Kept___init__:List PS:=[.sattr 218 (.var 0 (P 61 8 12)) "columns" (P 61 8 20) (.var 1 (P 61 23 30)) (P 61 8 30),
    .sattr 218 (.var 0 (P 62 8 12)) "entries" (P 62 8 20) (.list true [] (P 62 23 25)) (P 62 8 25)]
noncomputable def nm_Kept_entry_of (i:Nat):Str:=(["self", "number", "row", "column"]:List Str).getD i ""
noncomputable def p_Kept_entry_of:List PS:=[.ret (.bin .Add (.comp false (.sub (.var 2 (P 65 16 19)) (.var 3 (P 65 20 26)) (P 65 16 27)) 3 (P 65 32 38) (.of (.attr 218 (.var 0 (P 65 42 46)) "columns" (P 65 42 54))) [] { kind := .function,names:=[(".0",.local),("column",.local),("row",.free)],isGenerator:=false,isCoroutine:=false,more:=[] } [2] (P 65 15 55)) (.list false [(.var 1 (P 65 59 65))] (P 65 58 66)) (P 65 15 66)) (P 65 8 66)]
noncomputable def nm_Kept_put (i:Nat):Str:=(["self", "number", "row", "entry"]:List Str).getD i ""
noncomputable def p_Kept_put:List PS:=[.assign 3 (P 68 8 13) (.meth 218 10 (.var 0 (P 68 16 20)) "entry_of" (P 68 16 29) [(.var 1 (P 68 30 36)),(.var 2 (P 68 38 41))] (P 68 16 42)) (P 68 8 42),
    .expr (.lm .insert (.attr 218 (.var 0 (P 69 8 12)) "entries" (P 69 8 20)) (P 69 8 27) [(.call 11 (P 69 28 33) [(.attr 218 (.var 0 (P 69 34 38)) "entries" (P 69 34 46)),(.var 3 (P 69 48 53))] (P 69 28 54)),(.var 3 (P 69 56 61))] (P 69 8 62)) (P 69 8 62)]
noncomputable def nm_Kept_drop (i:Nat):Str:=(["self", "number", "row"]:List Str).getD i ""
noncomputable def p_Kept_drop:List PS:=[.expr (.lm .pop (.attr 218 (.var 0 (P 72 8 12)) "entries" (P 72 8 20)) (P 72 8 24) [(.call 11 (P 72 25 30) [(.attr 218 (.var 0 (P 72 31 35)) "entries" (P 72 31 43)),(.meth 218 10 (.var 0 (P 72 45 49)) "entry_of" (P 72 45 58) [(.var 1 (P 72 59 65)),(.var 2 (P 72 67 70))] (P 72 45 71))] (P 72 25 72))] (P 72 8 73)) (P 72 8 73)]
noncomputable def nm_Kept_numbers (i:Nat):Str:=(["self", "entry"]:List Str).getD i ""
noncomputable def p_Kept_numbers:List PS:=[.ret (.comp false (.sub (.var 1 (P 75 16 21)) (.neg (.cint 1 (P 75 23 24)) (P 75 22 24)) (P 75 16 25)) 1 (P 75 30 35) (.of (.attr 218 (.var 0 (P 75 39 43)) "entries" (P 75 39 51))) [] { kind := .function,names:=[(".0",.local),("entry",.local)],isGenerator:=false,isCoroutine:=false,more:=[] } [] (P 75 15 52)) (P 75 8 52)]
noncomputable def nm_Kept_bounds (i:Nat):Str:=(["self", "wish", "asked", "pinned", "column", "triple"]:List Str).getD i ""
noncomputable def p_Kept_bounds:List PS:=[.assign 2 (P 78 8 13) (.call 12 (P 78 16 22) [(.var 1 (P 78 23 27))] (P 78 16 28)) (P 78 8 28),
    .assign 3 (P 79 8 14) (.list true [] (P 79 17 19)) (P 79 8 19),
    .loop 4 (P 80 12 18) (.of (.attr 218 (.var 0 (P 80 22 26)) "columns" (P 80 22 34))) [.assign 5 (P 81 12 18) (.call 13 (P 81 21 30) [(.var 2 (P 81 31 36)),(.var 4 (P 81 38 44))] (P 81 21 45)) (P 81 12 45),
    .ite (.bop .Or [(.cmp .Is (.var 5 (P 82 15 21)) (.cnone (P 82 25 29)) (P 82 15 29)),(.cmp .Is (.sub (.var 5 (P 82 33 39)) (.cint 1 (P 82 40 41)) (P 82 33 42)) (.cnone (P 82 46 50)) (P 82 33 50)),(.cmp .NotEq (.sub (.var 5 (P 82 54 60)) (.cint 1 (P 82 61 62)) (P 82 54 63)) (.sub (.var 5 (P 82 67 73)) (.cint 2 (P 82 74 75)) (P 82 67 76)) (P 82 54 76))] (P 82 15 76)) [.ret (.tup [(.var 3 (P 83 24 30)),(.var 5 (P 83 32 38))] 0 (P 83 23 39)) (P 83 16 39)] [] ⟨82,12,83,39⟩,
    .expr (.app (.var 3 (P 84 12 18)) (P 84 12 25) (.sub (.var 5 (P 84 26 32)) (.cint 1 (P 84 33 34)) (P 84 26 35)) (P 84 12 36)) (P 84 12 36)] ⟨80,8,84,36⟩,
    .ret (.tup [(.var 3 (P 85 16 22)),(.cnone (P 85 24 28))] 0 (P 85 15 29)) (P 85 8 29)]
noncomputable def nm_Kept_behind (i:Nat):Str:=(["self", "pinned"]:List Str).getD i ""
noncomputable def p_Kept_behind:List PS:=[.ite (.cmp .Eq (.var 1 (P 88 11 17)) (.list false [] (P 88 21 23)) (P 88 11 23)) [.ret (.bi .len false 5 (P 89 19 22) [(.attr 218 (.var 0 (P 89 23 27)) "entries" (P 89 23 35))] (P 89 19 36)) (P 89 12 36)] [] ⟨88,8,89,36⟩,
    .ret (.call 11 (P 90 15 20) [(.attr 218 (.var 0 (P 90 21 25)) "entries" (P 90 21 33)),(.bin .Add (.slc false (.var 1 (P 90 35 41)) Option.none (some (.neg (.cint 1 (P 90 44 45)) (P 90 43 45))) (P 90 42 45) (P 90 35 46)) (.list false [(.bin .Add (.sub (.var 1 (P 90 50 56)) (.neg (.cint 1 (P 90 58 59)) (P 90 57 59)) (P 90 50 60)) (.cint 1 (P 90 63 64)) (P 90 50 64))] (P 90 49 65)) (P 90 35 65))] (P 90 15 66)) (P 90 8 66)]
noncomputable def nm_Kept_stretch (i:Nat):Str:=(["self", "wish", "found", "pinned", "ranged", "start", "end", "at"]:List Str).getD i ""
noncomputable def p_Kept_stretch:List PS:=[.assign 2 (P 93 8 13) (.meth 218 14 (.var 0 (P 93 16 20)) "bounds" (P 93 16 27) [(.var 1 (P 93 28 32))] (P 93 16 33)) (P 93 8 33),
    .assign 3 (P 94 8 14) (.sub (.var 2 (P 94 17 22)) (.cint 0 (P 94 23 24)) (P 94 17 25)) (P 94 8 25),
    .assign 4 (P 95 8 14) (.sub (.var 2 (P 95 17 22)) (.cint 1 (P 95 23 24)) (P 95 17 25)) (P 95 8 25),
    .assign 5 (P 96 8 13) (.call 11 (P 96 16 21) [(.attr 218 (.var 0 (P 96 22 26)) "entries" (P 96 22 34)),(.var 3 (P 96 36 42))] (P 96 16 43)) (P 96 8 43),
    .assign 6 (P 97 8 11) (.meth 218 15 (.var 0 (P 97 14 18)) "behind" (P 97 14 25) [(.var 3 (P 97 26 32))] (P 97 14 33)) (P 97 8 33),
    .ite (.bop .And [(.cmp .IsNot (.var 4 (P 98 11 17)) (.cnone (P 98 25 29)) (P 98 11 29)),(.cmp .IsNot (.sub (.var 4 (P 98 34 40)) (.cint 1 (P 98 41 42)) (P 98 34 43)) (.cnone (P 98 51 55)) (P 98 34 55))] (P 98 11 55)) [.assign 5 (P 99 12 17) (.call 11 (P 99 20 25) [(.attr 218 (.var 0 (P 99 26 30)) "entries" (P 99 26 38)),(.bin .Add (.var 3 (P 99 40 46)) (.list false [(.sub (.var 4 (P 99 50 56)) (.cint 1 (P 99 57 58)) (P 99 50 59))] (P 99 49 60)) (P 99 40 60))] (P 99 20 61)) (P 99 12 61)] [] ⟨98,8,99,61⟩,
    .ite (.bop .And [(.cmp .IsNot (.var 4 (P 100 11 17)) (.cnone (P 100 25 29)) (P 100 11 29)),(.cmp .IsNot (.sub (.var 4 (P 100 34 40)) (.cint 2 (P 100 41 42)) (P 100 34 43)) (.cnone (P 100 51 55)) (P 100 34 55))] (P 100 11 55)) [.assign 6 (P 101 12 15) (.call 11 (P 101 18 23) [(.attr 218 (.var 0 (P 101 24 28)) "entries" (P 101 24 36)),(.bin .Add (.var 3 (P 101 38 44)) (.list false [(.bin .Add (.sub (.var 4 (P 101 48 54)) (.cint 2 (P 101 55 56)) (P 101 48 57)) (.cint 1 (P 101 60 61)) (P 101 48 61))] (P 101 47 62)) (P 101 38 62))] (P 101 18 63)) (P 101 12 63)] [] ⟨100,8,101,63⟩,
    .ret (.comp false (.sub (.sub (.attr 218 (.var 0 (P 102 16 20)) "entries" (P 102 16 28)) (.var 7 (P 102 29 31)) (P 102 16 32)) (.neg (.cint 1 (P 102 34 35)) (P 102 33 35)) (P 102 16 36)) 7 (P 102 41 43) (.range2 3 (P 102 47 52) (.var 5 (P 102 53 58)) (.var 6 (P 102 60 63)) (P 102 47 64)) [] { kind := .function,names:=[(".0",.local),("at",.local),("self",.free)],isGenerator:=false,isCoroutine:=false,more:=[] } [0] (P 102 15 65)) (P 102 8 65)]
noncomputable def nm_Kept_covers (i:Nat):Str:=(["self", "wish", "triple"]:List Str).getD i ""
noncomputable def p_Kept_covers:List PS:=[.loop 2 (P 105 12 18) (.of (.var 1 (P 105 22 26))) [.ite (.cmp .NotIn (.sub (.var 2 (P 106 15 21)) (.cint 0 (P 106 22 23)) (P 106 15 24)) (.attr 218 (.var 0 (P 106 32 36)) "columns" (P 106 32 44)) (P 106 15 44)) [.ret (.cbool false (P 107 23 28)) (P 107 16 28)] [] ⟨106,12,107,28⟩] ⟨105,8,107,28⟩,
    .ret (.cbool true (P 108 15 19)) (P 108 8 19)]
noncomputable def nm_is_end (i:Nat):Str:=(["thing"]:List Str).getD i ""
noncomputable def p_is_end:List PS:=[.ret (.bop .Or [(.cmp .Is (.var 0 (P 115 11 16)) (.cnone (P 115 20 24)) (P 115 11 24)),(.call 16 (P 115 28 36) [(.var 0 (P 115 37 42))] (P 115 28 43))] (P 115 11 43)) (P 115 4 43)]
noncomputable def nm_Table___init__ (i:Nat):Str:=(["self", "width"]:List Str).getD i ""
noncomputable def p_Table___init__:List PS:=[.ite (.bop .Or [(.not (.call 16 (P 119 15 23) [(.var 1 (P 119 24 29))] (P 119 15 30)) (P 119 11 30)),(.not (.cmp2 .LtE .LtE (.cint 1 (P 119 38 39)) (.var 1 (P 119 43 48)) (.gint 17 6 (P 119 52 62)) (P 119 38 62)) (P 119 34 62))] (P 119 11 62)) [.raise 37 18 (P 120 18 26) "no such width" (P 120 27 42) (P 120 18 43) (P 120 12 43)] [] ⟨119,8,120,43⟩,
    .sattr 387 (.var 0 (P 121 8 12)) "width" (P 121 8 18) (.var 1 (P 121 21 26)) (P 121 8 26),
    .sattr 387 (.var 0 (P 122 8 12)) "there" (P 122 8 18) (.dct (P 122 21 23)) (P 122 8 23),
    .sattr 387 (.var 0 (P 123 8 12)) "kept" (P 123 8 17) (.list true [] (P 123 20 22)) (P 123 8 22),
    .sattr 387 (.var 0 (P 124 8 12)) "following" (P 124 8 22) (.cint 0 (P 124 25 26)) (P 124 8 26)]
noncomputable def nm_Table_has_column (i:Nat):Str:=(["self", "column"]:List Str).getD i ""
noncomputable def p_Table_has_column:List PS:=[.ret (.bop .And [(.call 16 (P 127 15 23) [(.var 1 (P 127 24 30))] (P 127 15 31)),(.cmp2 .LtE .Lt (.cint 0 (P 127 36 37)) (.var 1 (P 127 41 47)) (.attr 387 (.var 0 (P 127 50 54)) "width" (P 127 50 60)) (P 127 36 60))] (P 127 15 60)) (P 127 8 60)]
noncomputable def nm_Table_need_row (i:Nat):Str:=(["self", "number"]:List Str).getD i ""
noncomputable def p_Table_need_row:List PS:=[.ite (.bop .Or [(.not (.call 16 (P 130 15 23) [(.var 1 (P 130 24 30))] (P 130 15 31)) (P 130 11 31)),(.cmp .NotIn (.var 1 (P 130 35 41)) (.attr 387 (.var 0 (P 130 49 53)) "there" (P 130 49 59)) (P 130 35 59))] (P 130 11 59)) [.raise 73 19 (P 131 18 23) "no such row" (P 131 24 37) (P 131 18 38) (P 131 12 38)] [] ⟨130,8,131,38⟩]
noncomputable def nm_Table_is_triple (i:Nat):Str:=(["self", "thing"]:List Str).getD i ""
noncomputable def p_Table_is_triple:List PS:=[.ite (.bop .Or [(.not (.isi (.var 1 (P 134 26 31)) .tuple 0 (P 134 15 25) 20 (P 134 33 38) (P 134 15 39)) (P 134 11 39)),(.cmp .NotEq (.bi .len false 5 (P 134 43 46) [(.var 1 (P 134 47 52))] (P 134 43 53)) (.cint 3 (P 134 57 58)) (P 134 43 58))] (P 134 11 58)) [.ret (.cbool false (P 135 19 24)) (P 135 12 24)] [] ⟨134,8,135,24⟩,
    .ret (.bop .And [(.meth 387 21 (.var 0 (P 136 15 19)) "has_column" (P 136 15 30) [(.sub (.var 1 (P 136 31 36)) (.cint 0 (P 136 37 38)) (P 136 31 39))] (P 136 15 40)),(.call 22 (P 136 45 51) [(.sub (.var 1 (P 136 52 57)) (.cint 1 (P 136 58 59)) (P 136 52 60))] (P 136 45 61)),(.call 22 (P 136 66 72) [(.sub (.var 1 (P 136 73 78)) (.cint 2 (P 136 79 80)) (P 136 73 81))] (P 136 66 82))] (P 136 15 82)) (P 136 8 82)]
noncomputable def nm_Table_need_wish (i:Nat):Str:=(["self", "wish", "triple"]:List Str).getD i ""
noncomputable def p_Table_need_wish:List PS:=[.ite (.bop .Or [(.not (.isi (.var 1 (P 139 26 30)) .list 0 (P 139 15 25) 23 (P 139 32 36) (P 139 15 37)) (P 139 11 37)),(.cmp .Gt (.bi .len false 5 (P 139 41 44) [(.var 1 (P 139 45 49))] (P 139 41 50)) (.gint 24 20 (P 139 53 65)) (P 139 41 65))] (P 139 11 65)) [.raise 97 25 (P 140 18 25) "no wish" (P 140 26 35) (P 140 18 36) (P 140 12 36)] [] ⟨139,8,140,36⟩,
    .loop 2 (P 141 12 18) (.of (.var 1 (P 141 22 26))) [.ite (.not (.meth 387 26 (.var 0 (P 142 19 23)) "is_triple" (P 142 19 33) [(.var 2 (P 142 34 40))] (P 142 19 41)) (P 142 15 41)) [.raise 97 25 (P 143 22 29) "no triple" (P 143 30 41) (P 143 22 42) (P 143 16 42)] [] ⟨142,12,143,42⟩] ⟨141,8,143,42⟩]
noncomputable def nm_Table_is_order (i:Nat):Str:=(["self", "order", "column"]:List Str).getD i ""
noncomputable def p_Table_is_order:List PS:=[.ite (.bop .Or [(.not (.isi (.var 1 (P 146 26 31)) .tuple 0 (P 146 15 25) 20 (P 146 33 38) (P 146 15 39)) (P 146 11 39)),(.cmp .Eq (.bi .len false 5 (P 146 43 46) [(.var 1 (P 146 47 52))] (P 146 43 53)) (.cint 0 (P 146 57 58)) (P 146 43 58))] (P 146 11 58)) [.ret (.cbool false (P 147 19 24)) (P 147 12 24)] [] ⟨146,8,147,24⟩,
    .loop 2 (P 148 12 18) (.of (.var 1 (P 148 22 27))) [.ite (.not (.meth 387 21 (.var 0 (P 149 19 23)) "has_column" (P 149 19 34) [(.var 2 (P 149 35 41))] (P 149 19 42)) (P 149 15 42)) [.ret (.cbool false (P 150 23 28)) (P 150 16 28)] [] ⟨149,12,150,28⟩] ⟨148,8,150,28⟩,
    .ret (.cmp .Eq (.lset (.var 1 (P 151 23 28)) 5 (P 151 15 18) 8 (P 151 19 22) (P 151 19 29) (P 151 15 30)) (.bi .len false 5 (P 151 34 37) [(.var 1 (P 151 38 43))] (P 151 34 44)) (P 151 15 44)) (P 151 8 44)]
noncomputable def nm_Table_kept_of (i:Nat):Str:=(["self", "order", "one"]:List Str).getD i ""
noncomputable def p_Table_kept_of:List PS:=[.ite (.meth 387 27 (.var 0 (P 154 11 15)) "is_order" (P 154 11 24) [(.var 1 (P 154 25 30))] (P 154 11 31)) [.loop 2 (P 155 16 19) (.of (.attr 387 (.var 0 (P 155 23 27)) "kept" (P 155 23 32))) [.ite (.cmp .Eq (.attr 218 (.var 2 (P 156 19 22)) "columns" (P 156 19 30)) (.var 1 (P 156 34 39)) (P 156 19 39)) [.ret (.var 2 (P 157 27 30)) (P 157 20 30)] [] ⟨156,16,157,30⟩] ⟨155,12,157,30⟩] [] ⟨154,8,157,30⟩,
    .raise 109 28 (P 158 14 22) "no such order is kept" (P 158 23 46) (P 158 14 47) (P 158 8 47)]
noncomputable def nm_Table_put (i:Nat):Str:=(["self", "row", "thing", "number", "one"]:List Str).getD i ""
noncomputable def p_Table_put:List PS:=[.ite (.bop .Or [(.not (.isi2 (.var 1 (P 161 26 29)) 0 (P 161 15 25) 23 (P 161 32 36) 20 (P 161 38 43) 0 (P 161 31 44) (P 161 15 45)) (P 161 11 45)),(.cmp .NotEq (.bi .len false 5 (P 161 49 52) [(.var 1 (P 161 53 56))] (P 161 49 57)) (.attr 387 (.var 0 (P 161 61 65)) "width" (P 161 61 71)) (P 161 49 71))] (P 161 11 71)) [.raise 49 29 (P 162 18 24) "no row" (P 162 25 33) (P 162 18 34) (P 162 12 34)] [] ⟨161,8,162,34⟩,
    .loop 2 (P 163 12 17) (.of (.var 1 (P 163 21 24))) [.ite (.not (.call 16 (P 164 19 27) [(.var 2 (P 164 28 33))] (P 164 19 34)) (P 164 15 34)) [.raise 49 29 (P 165 22 28) "no whole number" (P 165 29 46) (P 165 22 47) (P 165 16 47)] [] ⟨164,12,165,47⟩] ⟨163,8,165,47⟩,
    .ite (.cmp .Eq (.bi .lenD false 5 (P 166 11 14) [(.attr 387 (.var 0 (P 166 15 19)) "there" (P 166 15 25))] (P 166 11 26)) (.gint 30 200 (P 166 30 39)) (P 166 11 39)) [.raise 61 31 (P 167 18 22) "no room" (P 167 23 32) (P 167 18 33) (P 167 12 33)] [] ⟨166,8,167,33⟩,
    .assign 3 (P 168 8 14) (.attr 387 (.var 0 (P 168 17 21)) "following" (P 168 17 31)) (P 168 8 31),
    .sattr 387 (.var 0 (P 169 8 12)) "following" (P 169 8 22) (.bin .Add (.var 3 (P 169 25 31)) (.cint 1 (P 169 34 35)) (P 169 25 35)) (P 169 8 35),
    .ssub (.attr 387 (.var 0 (P 170 8 12)) "there" (P 170 8 18)) (.var 3 (P 170 19 25)) (P 170 8 26) (.bi .tupleA false 20 (P 170 29 34) [(.var 1 (P 170 35 38))] (P 170 29 39)) (P 170 8 39),
    .loop 4 (P 171 12 15) (.of (.attr 387 (.var 0 (P 171 19 23)) "kept" (P 171 19 28))) [.expr (.meth 218 32 (.var 4 (P 172 12 15)) "put" (P 172 12 19) [(.var 3 (P 172 20 26)),(.subd (.attr 387 (.var 0 (P 172 28 32)) "there" (P 172 28 38)) (.var 3 (P 172 39 45)) (P 172 28 46))] (P 172 12 47)) (P 172 12 47)] ⟨171,8,172,47⟩,
    .ret (.var 3 (P 173 15 21)) (P 173 8 21)]
noncomputable def nm_Table_drop (i:Nat):Str:=(["self", "number", "row", "one"]:List Str).getD i ""
noncomputable def p_Table_drop:List PS:=[.expr (.meth 387 33 (.var 0 (P 176 8 12)) "need_row" (P 176 8 21) [(.var 1 (P 176 22 28))] (P 176 8 29)) (P 176 8 29),
    .assign 2 (P 177 8 11) (.lm .dpop (.attr 387 (.var 0 (P 177 14 18)) "there" (P 177 14 24)) (P 177 14 28) [(.var 1 (P 177 29 35))] (P 177 14 36)) (P 177 8 36),
    .loop 3 (P 178 12 15) (.of (.attr 387 (.var 0 (P 178 19 23)) "kept" (P 178 19 28))) [.expr (.meth 218 34 (.var 3 (P 179 12 15)) "drop" (P 179 12 20) [(.var 1 (P 179 21 27)),(.var 2 (P 179 29 32))] (P 179 12 33)) (P 179 12 33)] ⟨178,8,179,33⟩]
noncomputable def nm_Table_change (i:Nat):Str:=(["self", "number", "column", "value", "before", "after", "one"]:List Str).getD i ""
noncomputable def p_Table_change:List PS:=[.expr (.meth 387 33 (.var 0 (P 182 8 12)) "need_row" (P 182 8 21) [(.var 1 (P 182 22 28))] (P 182 8 29)) (P 182 8 29),
    .ite (.not (.meth 387 21 (.var 0 (P 183 15 19)) "has_column" (P 183 15 30) [(.var 2 (P 183 31 37))] (P 183 15 38)) (P 183 11 38)) [.raise 85 35 (P 184 18 27) "no such column" (P 184 28 44) (P 184 18 45) (P 184 12 45)] [] ⟨183,8,184,45⟩,
    .ite (.not (.call 16 (P 185 15 23) [(.var 3 (P 185 24 29))] (P 185 15 30)) (P 185 11 30)) [.raise 49 29 (P 186 18 24) "no whole number" (P 186 25 42) (P 186 18 43) (P 186 12 43)] [] ⟨185,8,186,43⟩,
    .assign 4 (P 187 8 14) (.subd (.attr 387 (.var 0 (P 187 17 21)) "there" (P 187 17 27)) (.var 1 (P 187 28 34)) (P 187 17 35)) (P 187 8 35),
    .assign 5 (P 188 8 13) (.bin .Add (.bin .Add (.slc false (.var 4 (P 188 16 22)) Option.none (some (.var 2 (P 188 24 30))) (P 188 23 30) (P 188 16 31)) (.tup [(.var 3 (P 188 35 40))] 0 (P 188 34 42)) (P 188 16 42)) (.slc false (.var 4 (P 188 45 51)) (some (.bin .Add (.var 2 (P 188 52 58)) (.cint 1 (P 188 61 62)) (P 188 52 62))) Option.none (P 188 52 63) (P 188 45 64)) (P 188 16 64)) (P 188 8 64),
    .ssub (.attr 387 (.var 0 (P 189 8 12)) "there" (P 189 8 18)) (.var 1 (P 189 19 25)) (P 189 8 26) (.var 5 (P 189 29 34)) (P 189 8 34),
    .loop 6 (P 190 12 15) (.of (.attr 387 (.var 0 (P 190 19 23)) "kept" (P 190 19 28))) [.expr (.meth 218 34 (.var 6 (P 191 12 15)) "drop" (P 191 12 20) [(.var 1 (P 191 21 27)),(.var 4 (P 191 29 35))] (P 191 12 36)) (P 191 12 36),
    .expr (.meth 218 32 (.var 6 (P 192 12 15)) "put" (P 192 12 19) [(.var 1 (P 192 20 26)),(.var 5 (P 192 28 33))] (P 192 12 34)) (P 192 12 34)] ⟨190,8,192,34⟩]
noncomputable def nm_Table_row (i:Nat):Str:=(["self", "number"]:List Str).getD i ""
noncomputable def p_Table_row:List PS:=[.expr (.meth 387 33 (.var 0 (P 195 8 12)) "need_row" (P 195 8 21) [(.var 1 (P 195 22 28))] (P 195 8 29)) (P 195 8 29),
    .ret (.subd (.attr 387 (.var 0 (P 196 15 19)) "there" (P 196 15 25)) (.var 1 (P 196 26 32)) (P 196 15 33)) (P 196 8 33)]
noncomputable def nm_Table_numbers (i:Nat):Str:=(["self"]:List Str).getD i ""
noncomputable def p_Table_numbers:List PS:=[.ret (.bi .sorted false 7 (P 199 15 21) [(.bi .listD false 23 (P 199 22 26) [(.attr 387 (.var 0 (P 199 27 31)) "there" (P 199 27 37))] (P 199 22 38))] (P 199 15 39)) (P 199 8 39)]
noncomputable def nm_Table_tell (i:Nat):Str:=(["self", "order", "one", "number"]:List Str).getD i ""
noncomputable def p_Table_tell:List PS:=[.ite (.not (.meth 387 27 (.var 0 (P 202 15 19)) "is_order" (P 202 15 28) [(.var 1 (P 202 29 34))] (P 202 15 35)) (P 202 11 35)) [.raise 109 28 (P 203 18 26) "no order" (P 203 27 37) (P 203 18 38) (P 203 12 38)] [] ⟨202,8,203,38⟩,
    .ite (.cmp .In (.var 1 (P 204 11 16)) (.meth 387 36 (.var 0 (P 204 20 24)) "orders" (P 204 20 31) [] (P 204 20 33)) (P 204 11 33)) [.raise 109 28 (P 205 18 26) "it is kept already" (P 205 27 47) (P 205 18 48) (P 205 12 48)] [] ⟨204,8,205,48⟩,
    .ite (.cmp .Eq (.bi .len false 5 (P 206 11 14) [(.attr 387 (.var 0 (P 206 15 19)) "kept" (P 206 15 24))] (P 206 11 25)) (.gint 37 8 (P 206 29 40)) (P 206 11 40)) [.raise 109 28 (P 207 18 26) "one order too many" (P 207 27 47) (P 207 18 48) (P 207 12 48)] [] ⟨206,8,207,48⟩,
    .assign 2 (P 208 8 11) (.new 218 38 39 (P 208 14 18) [(.var 1 (P 208 19 24))] (P 208 14 25)) (P 208 8 25),
    .loop 3 (P 209 12 18) (.of (.meth 387 40 (.var 0 (P 209 22 26)) "numbers" (P 209 22 34) [] (P 209 22 36))) [.expr (.meth 218 32 (.var 2 (P 210 12 15)) "put" (P 210 12 19) [(.var 3 (P 210 20 26)),(.subd (.attr 387 (.var 0 (P 210 28 32)) "there" (P 210 28 38)) (.var 3 (P 210 39 45)) (P 210 28 46))] (P 210 12 47)) (P 210 12 47)] ⟨209,8,210,47⟩,
    .expr (.app (.attr 387 (.var 0 (P 211 8 12)) "kept" (P 211 8 17)) (P 211 8 24) (.var 2 (P 211 25 28)) (P 211 8 29)) (P 211 8 29)]
noncomputable def nm_Table_forget (i:Nat):Str:=(["self", "order", "gone", "one"]:List Str).getD i ""
noncomputable def p_Table_forget:List PS:=[.assign 2 (P 214 8 12) (.meth 387 41 (.var 0 (P 214 15 19)) "kept_of" (P 214 15 27) [(.var 1 (P 214 28 33))] (P 214 15 34)) (P 214 8 34),
    .sattr 387 (.var 0 (P 215 8 12)) "kept" (P 215 8 17) (.comp true (.var 3 (P 215 21 24)) 3 (P 215 29 32) (.of (.attr 387 (.var 0 (P 215 36 40)) "kept" (P 215 36 45))) [(.cmp .NotEq (.attr 218 (.var 3 (P 215 49 52)) "columns" (P 215 49 60)) (.attr 218 (.var 2 (P 215 64 68)) "columns" (P 215 64 76)) (P 215 49 76))] { kind := .function,names:=[(".0",.local),("one",.local),("gone",.free)],isGenerator:=false,isCoroutine:=false,more:=[] } [2] (P 215 20 77)) (P 215 8 77)]
noncomputable def nm_Table_orders (i:Nat):Str:=(["self", "one"]:List Str).getD i ""
noncomputable def p_Table_orders:List PS:=[.ret (.comp false (.attr 218 (.var 1 (P 218 16 19)) "columns" (P 218 16 27)) 1 (P 218 32 35) (.of (.attr 387 (.var 0 (P 218 39 43)) "kept" (P 218 39 48))) [] { kind := .function,names:=[(".0",.local),("one",.local)],isGenerator:=false,isCoroutine:=false,more:=[] } [] (P 218 15 49)) (P 218 8 49)]
noncomputable def nm_Table_listed (i:Nat):Str:=(["self", "order"]:List Str).getD i ""
noncomputable def p_Table_listed:List PS:=[.ret (.meth 218 42 (.meth 387 41 (.var 0 (P 221 15 19)) "kept_of" (P 221 15 27) [(.var 1 (P 221 28 33))] (P 221 15 34)) "numbers" (P 221 15 42) [] (P 221 15 44)) (P 221 8 44)]
noncomputable def nm_Table_cost_of (i:Nat):Str:=(["self", "one", "wish", "many"]:List Str).getD i ""
noncomputable def p_Table_cost_of:List PS:=[.assign 3 (P 224 8 12) (.bi .len false 5 (P 224 15 18) [(.meth 218 43 (.var 1 (P 224 19 22)) "stretch" (P 224 19 30) [(.var 2 (P 224 31 35))] (P 224 19 36))] (P 224 15 37)) (P 224 8 37),
    .ite (.meth 218 44 (.var 1 (P 225 11 14)) "covers" (P 225 11 21) [(.var 2 (P 225 22 26))] (P 225 11 27)) [.ret (.var 3 (P 226 19 23)) (P 226 12 23)] [] ⟨225,8,226,23⟩,
    .ret (.bin .Mult (.cint 2 (P 227 15 16)) (.var 3 (P 227 19 23)) (P 227 15 23)) (P 227 8 23)]
noncomputable def nm_Table_costs (i:Nat):Str:=(["self", "wish", "found", "one"]:List Str).getD i ""
noncomputable def p_Table_costs:List PS:=[.expr (.meth 387 45 (.var 0 (P 230 8 12)) "need_wish" (P 230 8 22) [(.var 1 (P 230 23 27))] (P 230 8 28)) (P 230 8 28),
    .assign 2 (P 231 8 13) (.list true [(.tup [(.cnone (P 231 18 22)),(.bi .lenD false 5 (P 231 24 27) [(.attr 387 (.var 0 (P 231 28 32)) "there" (P 231 28 38))] (P 231 24 39))] 0 (P 231 17 40))] (P 231 16 41)) (P 231 8 41),
    .loop 3 (P 232 12 15) (.of (.attr 387 (.var 0 (P 232 19 23)) "kept" (P 232 19 28))) [.expr (.app (.var 2 (P 233 12 17)) (P 233 12 24) (.tup [(.attr 218 (.var 3 (P 233 26 29)) "columns" (P 233 26 37)),(.meth 387 46 (.var 0 (P 233 39 43)) "cost_of" (P 233 39 51) [(.var 3 (P 233 52 55)),(.var 1 (P 233 57 61))] (P 233 39 62))] 0 (P 233 25 63)) (P 233 12 64)) (P 233 12 64)] ⟨232,8,233,64⟩,
    .ret (.var 2 (P 234 15 20)) (P 234 8 20)]
noncomputable def nm_Table_plan (i:Nat):Str:=(["self", "wish", "pairs", "best", "pair"]:List Str).getD i ""
noncomputable def p_Table_plan:List PS:=[.assign 2 (P 237 8 13) (.meth 387 47 (.var 0 (P 237 16 20)) "costs" (P 237 16 26) [(.var 1 (P 237 27 31))] (P 237 16 32)) (P 237 8 32),
    .assign 3 (P 238 8 12) (.sub (.var 2 (P 238 15 20)) (.cint 0 (P 238 21 22)) (P 238 15 23)) (P 238 8 23),
    .loop 4 (P 239 12 16) (.of (.var 2 (P 239 20 25))) [.ite (.cmp .Lt (.sub (.var 4 (P 240 15 19)) (.cint 1 (P 240 20 21)) (P 240 15 22)) (.sub (.var 3 (P 240 25 29)) (.cint 1 (P 240 30 31)) (P 240 25 32)) (P 240 15 32)) [.assign 3 (P 241 16 20) (.var 4 (P 241 23 27)) (P 241 16 27)] [] ⟨240,12,241,27⟩] ⟨239,8,241,27⟩,
    .ret (.var 3 (P 242 15 19)) (P 242 8 19)]
noncomputable def nm_Table_walked (i:Nat):Str:=(["self", "way", "wish", "one"]:List Str).getD i ""
noncomputable def p_Table_walked:List PS:=[.ite (.cmp .Is (.var 1 (P 245 11 14)) (.cnone (P 245 18 22)) (P 245 11 22)) [.expr (.meth 387 45 (.var 0 (P 246 12 16)) "need_wish" (P 246 12 26) [(.var 2 (P 246 27 31))] (P 246 12 32)) (P 246 12 32),
    .ret (.meth 387 40 (.var 0 (P 247 19 23)) "numbers" (P 247 19 31) [] (P 247 19 33)) (P 247 12 33)] [] ⟨245,8,247,33⟩,
    .assign 3 (P 248 8 11) (.meth 387 41 (.var 0 (P 248 14 18)) "kept_of" (P 248 14 26) [(.var 1 (P 248 27 30))] (P 248 14 31)) (P 248 8 31),
    .expr (.meth 387 45 (.var 0 (P 249 8 12)) "need_wish" (P 249 8 22) [(.var 2 (P 249 23 27))] (P 249 8 28)) (P 249 8 28),
    .ret (.meth 218 43 (.var 3 (P 250 15 18)) "stretch" (P 250 15 26) [(.var 2 (P 250 27 31))] (P 250 15 32)) (P 250 8 32)]
noncomputable def nm_Table_ask_by (i:Nat):Str:=(["self", "way", "wish", "number"]:List Str).getD i ""
noncomputable def p_Table_ask_by:List PS:=[.ret (.bi .sorted false 7 (P 253 15 21) [(.comp false (.var 3 (P 253 23 29)) 3 (P 253 34 40) (.of (.meth 387 48 (.var 0 (P 253 44 48)) "walked" (P 253 44 55) [(.var 1 (P 253 56 59)),(.var 2 (P 253 61 65))] (P 253 44 66))) [(.call 49 (P 253 70 74) [(.subd (.attr 387 (.var 0 (P 253 75 79)) "there" (P 253 75 85)) (.var 3 (P 253 86 92)) (P 253 75 93)),(.var 2 (P 253 95 99))] (P 253 70 100))] { kind := .function,names:=[(".0",.local),("number",.local),("fits",.globalImplicit),("self",.free),("wish",.free)],isGenerator:=false,isCoroutine:=false,more:=[] } [0,2] (P 253 22 101))] (P 253 15 102)) (P 253 8 102)]
noncomputable def nm_Table_ask (i:Nat):Str:=(["self", "wish"]:List Str).getD i ""
noncomputable def p_Table_ask:List PS:=[.ret (.meth 387 50 (.var 0 (P 256 15 19)) "ask_by" (P 256 15 26) [(.sub (.meth 387 51 (.var 0 (P 256 27 31)) "plan" (P 256 27 36) [(.var 1 (P 256 37 41))] (P 256 27 42)) (.cint 0 (P 256 43 44)) (P 256 27 45)),(.var 1 (P 256 47 51))] (P 256 15 52)) (P 256 8 52)]
noncomputable def nm_law_at (i:Nat):Str:=(["_law_script", "_law_k"]:List Str).getD i ""
noncomputable def p_law_at:List PS:=[.ite (.cmp .Lt (.var 1 (P 259 7 13)) (.bi .len false 5 (P 259 16 19) [(.var 0 (P 259 20 31))] (P 259 16 32)) (P 259 7 32)) [.ret (.sub (.var 0 (P 260 15 26)) (.var 1 (P 260 27 33)) (P 260 15 34)) (P 260 8 34)] [] ⟨259,4,260,34⟩,
    .ret (.cint 0 (P 261 11 12)) (P 261 4 12)]
noncomputable def nm_law_act (i:Nat):Str:=(["_law_table", "_law_kind", "_law_thing", "_law_way"]:List Str).getD i ""
noncomputable def p_law_act:List PS:=[.ite (.cmp .Eq (.var 1 (P 263 7 16)) (.cint 0 (P 263 20 21)) (P 263 7 21)) [.expr (.new 387 52 53 (P 264 8 13) [(.var 2 (P 264 14 24))] (P 264 8 25)) (P 264 8 25)] [.ite (.cmp .Eq (.var 1 (P 265 9 18)) (.cint 1 (P 265 22 23)) (P 265 9 23)) [.expr (.meth 387 54 (.var 0 (P 266 8 18)) "put" (P 266 8 22) [(.var 2 (P 266 23 33))] (P 266 8 34)) (P 266 8 34)] [.ite (.cmp .Eq (.var 1 (P 267 9 18)) (.cint 2 (P 267 22 23)) (P 267 9 23)) [.expr (.meth 387 55 (.var 0 (P 268 8 18)) "tell" (P 268 8 23) [(.var 2 (P 268 24 34))] (P 268 8 35)) (P 268 8 35)] [.ite (.cmp .Eq (.var 1 (P 269 9 18)) (.cint 3 (P 269 22 23)) (P 269 9 23)) [.expr (.meth 387 56 (.var 0 (P 270 8 18)) "forget" (P 270 8 25) [(.var 2 (P 270 26 36))] (P 270 8 37)) (P 270 8 37)] [.ite (.cmp .Eq (.var 1 (P 271 9 18)) (.cint 4 (P 271 22 23)) (P 271 9 23)) [.expr (.meth 387 57 (.var 0 (P 272 8 18)) "listed" (P 272 8 25) [(.var 2 (P 272 26 36))] (P 272 8 37)) (P 272 8 37)] [.ite (.cmp .Eq (.var 1 (P 273 9 18)) (.cint 5 (P 273 22 23)) (P 273 9 23)) [.expr (.meth 387 47 (.var 0 (P 274 8 18)) "costs" (P 274 8 24) [(.var 2 (P 274 25 35))] (P 274 8 36)) (P 274 8 36)] [.ite (.cmp .Eq (.var 1 (P 275 9 18)) (.cint 6 (P 275 22 23)) (P 275 9 23)) [.expr (.meth 387 51 (.var 0 (P 276 8 18)) "plan" (P 276 8 23) [(.var 2 (P 276 24 34))] (P 276 8 35)) (P 276 8 35)] [.ite (.cmp .Eq (.var 1 (P 277 9 18)) (.cint 7 (P 277 22 23)) (P 277 9 23)) [.expr (.meth 387 58 (.var 0 (P 278 8 18)) "ask" (P 278 8 22) [(.var 2 (P 278 23 33))] (P 278 8 34)) (P 278 8 34)] [.ite (.cmp .Eq (.var 1 (P 279 9 18)) (.cint 8 (P 279 22 23)) (P 279 9 23)) [.expr (.meth 387 48 (.var 0 (P 280 8 18)) "walked" (P 280 8 25) [(.var 3 (P 280 26 34)),(.var 2 (P 280 36 46))] (P 280 8 47)) (P 280 8 47)] [.ite (.cmp .Eq (.var 1 (P 281 9 18)) (.cint 9 (P 281 22 23)) (P 281 9 23)) [.expr (.meth 387 50 (.var 0 (P 282 8 18)) "ask_by" (P 282 8 25) [(.var 3 (P 282 26 34)),(.var 2 (P 282 36 46))] (P 282 8 47)) (P 282 8 47)] [.ite (.cmp .Eq (.var 1 (P 283 9 18)) (.cint 10 (P 283 22 24)) (P 283 9 24)) [.expr (.meth 387 59 (.var 0 (P 284 8 18)) "change" (P 284 8 25) [(.sub (.var 2 (P 284 26 36)) (.cint 0 (P 284 37 38)) (P 284 26 39)),(.sub (.var 2 (P 284 41 51)) (.cint 1 (P 284 52 53)) (P 284 41 54)),(.sub (.var 2 (P 284 56 66)) (.cint 2 (P 284 67 68)) (P 284 56 69))] (P 284 8 70)) (P 284 8 70)] [.expr (.meth 387 60 (.var 0 (P 286 8 18)) "drop" (P 286 8 23) [(.sub (.var 2 (P 286 24 34)) (.cint 0 (P 286 35 36)) (P 286 24 37))] (P 286 8 38)) (P 286 8 38)] ⟨283,4,286,38⟩] ⟨281,4,286,38⟩] ⟨279,4,286,38⟩] ⟨277,4,286,38⟩] ⟨275,4,286,38⟩] ⟨273,4,286,38⟩] ⟨271,4,286,38⟩] ⟨269,4,286,38⟩] ⟨267,4,286,38⟩] ⟨265,4,286,38⟩] ⟨263,4,286,38⟩]
noncomputable def nm_law_said (i:Nat):Str:=(["_law_table", "_law_kind", "_law_thing", "_law_way"]:List Str).getD i ""
noncomputable def p_law_said:List PS:=[.try [.expr (.call 61 (P 289 8 16) [(.var 0 (P 289 17 27)),(.var 1 (P 289 29 38)),(.var 2 (P 289 40 50)),(.var 3 (P 289 52 60))] (P 289 8 61)) (P 289 8 61)] [.mk [37] [49,61,73,85,97,109] 18 (P 290 11 19) [.ret (.cstr "bad width" (P 291 15 26)) (P 291 8 26)] ⟨290,4,291,26⟩,.mk [49] [37,61,73,85,97,109] 29 (P 292 11 17) [.ret (.cstr "bad row" (P 293 15 24)) (P 293 8 24)] ⟨292,4,293,24⟩,.mk [61] [37,49,73,85,97,109] 31 (P 294 11 15) [.ret (.cstr "full" (P 295 15 21)) (P 295 8 21)] ⟨294,4,295,21⟩,.mk [109] [37,49,61,73,85,97] 28 (P 296 11 19) [.ret (.cstr "bad order" (P 297 15 26)) (P 297 8 26)] ⟨296,4,297,26⟩,.mk [97] [37,49,61,73,85,109] 25 (P 298 11 18) [.ret (.cstr "bad wish" (P 299 15 25)) (P 299 8 25)] ⟨298,4,299,25⟩,.mk [73] [37,49,61,85,97,109] 19 (P 300 11 16) [.ret (.cstr "no row" (P 301 15 23)) (P 301 8 23)] ⟨300,4,301,23⟩,.mk [85] [37,49,61,73,97,109] 35 (P 302 11 20) [.ret (.cstr "bad column" (P 303 15 27)) (P 303 8 27)] ⟨302,4,303,27⟩] ⟨288,4,303,27⟩,
    .ret (.cstr "given" (P 304 11 18)) (P 304 4 18)]
noncomputable def nm_law_any (i:Nat):Str:=(["_law_table", "_law_kind", "_law_thing", "_law_way", "e", "_law_ways"]:List Str).getD i ""
noncomputable def p_law_any:List PS:=[.try [.expr (.call 61 (P 307 8 16) [(.var 0 (P 307 17 27)),(.var 1 (P 307 29 38)),(.var 2 (P 307 40 50)),(.var 3 (P 307 52 60))] (P 307 8 61)) (P 307 8 61)] [.as [37,49,61,73,85,97,109] [] 62 (P 308 11 20) 4 [.assign 5 (P 309 8 17) (.bin .Add (.bin .Add (.intb (.isx 4 (P 309 35 36) [37] [49,61,73,85,97,109] 0 (P 309 24 34) 18 (P 309 38 46) (P 309 24 47)) 1 (P 309 20 23) (P 309 20 48)) (.intb (.isx 4 (P 309 66 67) [49] [37,61,73,85,97,109] 0 (P 309 55 65) 29 (P 309 69 75) (P 309 55 76)) 1 (P 309 51 54) (P 309 51 77)) (P 309 20 77)) (.intb (.isx 4 (P 309 95 96) [61] [37,49,73,85,97,109] 0 (P 309 84 94) 31 (P 309 98 102) (P 309 84 103)) 1 (P 309 80 83) (P 309 80 104)) (P 309 20 104)) (P 309 8 104),
    .assign 5 (P 310 8 17) (.bin .Add (.bin .Add (.bin .Add (.var 5 (P 310 20 29)) (.intb (.isx 4 (P 310 47 48) [109] [37,49,61,73,85,97] 0 (P 310 36 46) 28 (P 310 50 58) (P 310 36 59)) 1 (P 310 32 35) (P 310 32 60)) (P 310 20 60)) (.intb (.isx 4 (P 310 78 79) [97] [37,49,61,73,85,109] 0 (P 310 67 77) 25 (P 310 81 88) (P 310 67 89)) 1 (P 310 63 66) (P 310 63 90)) (P 310 20 90)) (.intb (.isx 4 (P 310 108 109) [73] [37,49,61,85,97,109] 0 (P 310 97 107) 19 (P 310 111 116) (P 310 97 117)) 1 (P 310 93 96) (P 310 93 118)) (P 310 20 118)) (P 310 8 118),
    .ret (.bop .And [(.isx 4 (P 311 26 27) [37,49,61,73,85,97,109] [] 0 (P 311 15 25) 63 (P 311 29 39) (P 311 15 40)),(.cmp .Eq (.bin .Add (.var 5 (P 311 45 54)) (.intb (.isx 4 (P 311 72 73) [85] [37,49,61,73,97,109] 0 (P 311 61 71) 35 (P 311 75 84) (P 311 61 85)) 1 (P 311 57 60) (P 311 57 86)) (P 311 45 86)) (.cint 1 (P 311 90 91)) (P 311 45 91))] (P 311 15 91)) (P 311 8 91)] ⟨308,4,311,91⟩] ⟨306,4,311,91⟩,
    .ret (.cbool false (P 312 11 16)) (P 312 4 16)]
noncomputable def nm_law_width (i:Nat):Str:=(["_law_cell", "_law_far"]:List Str).getD i ""
noncomputable def p_law_width:List PS:=[.assign 1 (P 314 4 12) (.bin .Mod (.bin .FloorDiv (.var 0 (P 314 15 24)) (.cint 8 (P 314 28 29)) (P 314 15 29)) (.bin .Pow (.cint 10 (P 314 32 34)) (.cint 30 (P 314 38 40)) (P 314 32 40)) (P 314 15 40)) (P 314 4 40),
    .ret (.sub (.list false [(.cint 0 (P 315 12 13)),(.cint 7 (P 315 15 16)),(.bin .Sub (.neg (.cint 1 (P 315 19 20)) (P 315 18 20)) (.var 1 (P 315 23 31)) (P 315 18 31)),(.bin .Add (.cint 7 (P 315 33 34)) (.var 1 (P 315 37 45)) (P 315 33 45)),(.cbool true (P 315 47 51)),(.cnone (P 315 53 57)),(.cstr "3" (P 315 59 62)),(.bin .Add (.cint 1 (P 315 64 65)) (.bin .Mod (.var 1 (P 315 68 76)) (.cint 6 (P 315 79 80)) (P 315 68 80)) (P 315 64 80))] (P 315 11 81)) (.bin .Mod (.var 0 (P 315 82 91)) (.cint 8 (P 315 94 95)) (P 315 82 95)) (P 315 11 96)) (P 315 4 96)]
noncomputable def nm_law_row (i:Nat):Str:=(["_law_cell", "_law_place", "_law_width_here", "_law_row_here", "_law_at_here", "_law_way", "_law_k"]:List Str).getD i ""
noncomputable def p_law_row:List PS:=[.assign 3 (P 317 4 17) (.comp true (.bin .Add (.bin .Mod (.bin .FloorDiv (.var 0 (P 317 21 30)) (.cint 9 (P 317 34 35)) (P 317 21 35)) (.cint 5 (P 317 38 39)) (P 317 21 39)) (.var 6 (P 317 42 48)) (P 317 21 48)) 6 (P 317 53 59) (.range 3 (P 317 63 68) (.var 2 (P 317 69 84)) (P 317 63 85)) [] { kind := .function,names:=[(".0",.local),("_law_k",.local),("_law_cell",.free)],isGenerator:=false,isCoroutine:=false,more:=[] } [0] (P 317 20 86)) (P 317 4 86),
    .assign 4 (P 318 4 16) (.bin .Mod (.var 1 (P 318 19 29)) (.var 2 (P 318 32 47)) (P 318 19 47)) (P 318 4 47),
    .assign 5 (P 319 4 12) (.bin .Mod (.var 0 (P 319 15 24)) (.cint 9 (P 319 27 28)) (P 319 15 28)) (P 319 4 28),
    .ite (.cmp .Lt (.var 5 (P 320 7 15)) (.cint 4 (P 320 18 19)) (P 320 7 19)) [.ssub (.var 3 (P 321 8 21)) (.var 4 (P 321 22 34)) (P 321 8 35) (.sub (.list false [(.cbool true (P 321 39 43)),(.cnone (P 321 45 49)),(.cstr "1" (P 321 51 54)),(.list false [(.cint 1 (P 321 57 58))] (P 321 56 59))] (P 321 38 60)) (.var 5 (P 321 61 69)) (P 321 38 70)) (P 321 8 70)] [] ⟨320,4,321,70⟩,
    .ite (.cmp .Eq (.var 5 (P 322 7 15)) (.cint 4 (P 322 19 20)) (P 322 7 20)) [.assign 3 (P 323 8 21) (.slc false (.var 3 (P 323 24 37)) Option.none (some (.neg (.cint 1 (P 323 40 41)) (P 323 39 41))) (P 323 38 41) (P 323 24 42)) (P 323 8 42)] [] ⟨322,4,323,42⟩,
    .ite (.cmp .Eq (.var 5 (P 324 7 15)) (.cint 5 (P 324 19 20)) (P 324 7 20)) [.assign 3 (P 325 8 21) (.bin .Add (.var 3 (P 325 24 37)) (.list false [(.cint 0 (P 325 41 42))] (P 325 40 43)) (P 325 24 43)) (P 325 8 43)] [] ⟨324,4,325,43⟩,
    .ite (.cmp .Eq (.var 5 (P 326 7 15)) (.cint 6 (P 326 19 20)) (P 326 7 20)) [.ret (.slc false (.cstr "123456" (P 327 15 23)) Option.none (some (.var 2 (P 327 25 40))) (P 327 24 40) (P 327 15 41)) (P 327 8 41)] [] ⟨326,4,327,41⟩,
    .ite (.bop .And [(.cmp .Eq (.var 5 (P 328 7 15)) (.cint 7 (P 328 19 20)) (P 328 7 20)),(.cmp .Eq (.bin .Mod (.bin .FloorDiv (.var 1 (P 328 25 35)) (.cint 6 (P 328 39 40)) (P 328 25 40)) (.cint 2 (P 328 43 44)) (P 328 25 44)) (.cint 1 (P 328 48 49)) (P 328 25 49))] (P 328 7 49)) [.ret (.cnone (P 329 15 19)) (P 329 8 19)] [] ⟨328,4,329,19⟩,
    .ite (.cmp .Eq (.bin .Mod (.bin .FloorDiv (.var 1 (P 330 7 17)) (.cint 12 (P 330 21 23)) (P 330 7 23)) (.cint 2 (P 330 26 27)) (P 330 7 27)) (.cint 1 (P 330 31 32)) (P 330 7 32)) [.ret (.bi .tupleA false 20 (P 331 15 20) [(.var 3 (P 331 21 34))] (P 331 15 35)) (P 331 8 35)] [] ⟨330,4,331,35⟩,
    .ret (.var 3 (P 332 11 24)) (P 332 4 24)]
noncomputable def nm_law_order (i:Nat):Str:=(["_law_cell", "_law_place", "_law_width_here", "_law_order_here", "_law_at_here", "_law_way"]:List Str).getD i ""
noncomputable def p_law_order:List PS:=[.assign 3 (P 334 4 19) (.sub (.list false [(.list true [(.cint 0 (P 334 24 25))] (P 334 23 26)),(.list true [(.cint 2 (P 334 29 30)),(.cint 0 (P 334 32 33))] (P 334 28 34)),(.list true [(.cint 1 (P 334 37 38)),(.cint 2 (P 334 40 41))] (P 334 36 42)),(.list true [(.cint 2 (P 334 45 46)),(.cint 1 (P 334 48 49)),(.cint 0 (P 334 51 52))] (P 334 44 53))] (P 334 22 54)) (.bin .Mod (.bin .FloorDiv (.var 0 (P 334 55 64)) (.cint 9 (P 334 68 69)) (P 334 55 69)) (.cint 4 (P 334 72 73)) (P 334 55 73)) (P 334 22 74)) (P 334 4 74),
    .assign 4 (P 335 4 16) (.bin .Mod (.var 1 (P 335 19 29)) (.bi .len false 5 (P 335 32 35) [(.var 3 (P 335 36 51))] (P 335 32 52)) (P 335 19 52)) (P 335 4 52),
    .assign 5 (P 336 4 12) (.bin .Mod (.var 0 (P 336 15 24)) (.cint 9 (P 336 27 28)) (P 336 15 28)) (P 336 4 28),
    .ite (.cmp .Lt (.var 5 (P 337 7 15)) (.cint 6 (P 337 18 19)) (P 337 7 19)) [.ssub (.var 3 (P 338 8 23)) (.var 4 (P 338 24 36)) (P 338 8 37) (.sub (.list false [(.cbool true (P 338 41 45)),(.cnone (P 338 47 51)),(.cstr "0" (P 338 53 56)),(.var 2 (P 338 58 73)),(.neg (.cint 1 (P 338 76 77)) (P 338 75 77)),(.bin .Add (.var 2 (P 338 79 94)) (.bin .Mod (.bin .FloorDiv (.var 0 (P 338 97 106)) (.cint 36 (P 338 110 112)) (P 338 97 112)) (.bin .Pow (.cint 10 (P 338 115 117)) (.cint 30 (P 338 121 123)) (P 338 115 123)) (P 338 97 123)) (P 338 79 123))] (P 338 40 124)) (.var 5 (P 338 125 133)) (P 338 40 134)) (P 338 8 134)] [] ⟨337,4,338,134⟩,
    .ite (.cmp .Eq (.var 5 (P 339 7 15)) (.cint 6 (P 339 19 20)) (P 339 7 20)) [.expr (.lm .insert (.var 3 (P 340 8 23)) (P 340 8 30) [(.var 4 (P 340 31 43)),(.sub (.var 3 (P 340 45 60)) (.bin .Mod (.bin .FloorDiv (.var 1 (P 340 61 71)) (.cint 4 (P 340 75 76)) (P 340 61 76)) (.bi .len false 5 (P 340 79 82) [(.var 3 (P 340 83 98))] (P 340 79 99)) (P 340 61 99)) (P 340 45 100))] (P 340 8 101)) (P 340 8 101)] [] ⟨339,4,340,101⟩,
    .ite (.bop .And [(.cmp .Eq (.var 5 (P 341 7 15)) (.cint 7 (P 341 19 20)) (P 341 7 20)),(.cmp .Eq (.bin .Mod (.bin .FloorDiv (.var 1 (P 341 25 35)) (.cint 6 (P 341 39 40)) (P 341 25 40)) (.cint 2 (P 341 43 44)) (P 341 25 44)) (.cint 1 (P 341 48 49)) (P 341 25 49))] (P 341 7 49)) [.ret (.sub (.list false [(.cint 0 (P 342 16 17)),(.tup [] 0 (P 342 19 21))] (P 342 15 22)) (.bin .Mod (.bin .FloorDiv (.var 1 (P 342 23 33)) (.cint 12 (P 342 37 39)) (P 342 23 39)) (.cint 2 (P 342 42 43)) (P 342 23 43)) (P 342 15 44)) (P 342 8 44)] [] ⟨341,4,342,44⟩,
    .ite (.bop .And [(.cmp .Eq (.var 5 (P 343 7 15)) (.cint 8 (P 343 19 20)) (P 343 7 20)),(.cmp .Eq (.bin .Mod (.bin .FloorDiv (.var 1 (P 343 25 35)) (.cint 6 (P 343 39 40)) (P 343 25 40)) (.cint 2 (P 343 43 44)) (P 343 25 44)) (.cint 1 (P 343 48 49)) (P 343 25 49))] (P 343 7 49)) [.ret (.var 3 (P 344 15 30)) (P 344 8 30)] [] ⟨343,4,344,30⟩,
    .ret (.bi .tupleA false 20 (P 345 11 16) [(.var 3 (P 345 17 32))] (P 345 11 33)) (P 345 4 33)]
noncomputable def nm_law_good_order (i:Nat):Str:=(["_law_order_here", "_law_width_here", "_law_one"]:List Str).getD i ""
noncomputable def p_law_good_order:List PS:=[.ite (.bop .Or [(.not (.isi (.var 0 (P 347 22 37)) .tuple 0 (P 347 11 21) 20 (P 347 39 44) (P 347 11 45)) (P 347 7 45)),(.cmp .Eq (.bi .len false 5 (P 347 49 52) [(.var 0 (P 347 53 68))] (P 347 49 69)) (.cint 0 (P 347 73 74)) (P 347 49 74))] (P 347 7 74)) [.ret (.cbool false (P 348 15 20)) (P 348 8 20)] [] ⟨347,4,348,20⟩,
    .loop 2 (P 349 8 16) (.of (.var 0 (P 349 20 35))) [.ite (.bop .Or [(.isi (.var 2 (P 350 22 30)) .bool 0 (P 350 11 21) 2 (P 350 32 36) (P 350 11 37)),(.not (.isi (.var 2 (P 350 56 64)) .int 0 (P 350 45 55) 1 (P 350 66 69) (P 350 45 70)) (P 350 41 70)),(.not (.cmp2 .LtE .Lt (.cint 0 (P 350 79 80)) (.var 2 (P 350 84 92)) (.var 1 (P 350 95 110)) (P 350 79 110)) (P 350 75 110))] (P 350 11 111)) [.ret (.cbool false (P 351 19 24)) (P 351 12 24)] [] ⟨350,8,351,24⟩] ⟨349,4,351,24⟩,
    .ret (.cmp .Eq (.lset (.var 0 (P 352 19 34)) 5 (P 352 11 14) 8 (P 352 15 18) (P 352 15 35) (P 352 11 36)) (.bi .len false 5 (P 352 40 43) [(.var 0 (P 352 44 59))] (P 352 40 60)) (P 352 11 60)) (P 352 4 60)]
noncomputable def nm_law_wish (i:Nat):Str:=(["_law_cell", "_law_place", "_law_width_here", "_law_some", "_law_size", "_law_wish_here", "_law_k"]:List Str).getD i ""
noncomputable def p_law_wish:List PS:=[.assign 3 (P 354 4 13) (.list false [(.list false [(.cint 0 (P 354 18 19)),(.cint 1 (P 354 21 22)),(.cint 2 (P 354 24 25))] (P 354 17 26)),(.tup [(.cint 0 (P 354 29 30)),(.cint 1 (P 354 32 33))] 0 (P 354 28 34)),(.tup [(.cint 0 (P 354 37 38)),(.cint 1 (P 354 40 41)),(.cint 2 (P 354 43 44)),(.cint 3 (P 354 46 47))] 0 (P 354 36 48)),(.tup [(.var 2 (P 354 51 66)),(.cnone (P 354 68 72)),(.cnone (P 354 74 78))] 0 (P 354 50 79)),(.tup [(.neg (.cint 1 (P 354 83 84)) (P 354 82 84)),(.cint 1 (P 354 86 87)),(.cint 1 (P 354 89 90))] 0 (P 354 81 91)),(.tup [(.cbool true (P 354 94 98)),(.cint 1 (P 354 100 101)),(.cint 1 (P 354 103 104))] 0 (P 354 93 105)),(.tup [(.cnone (P 354 108 112)),(.cint 1 (P 354 114 115)),(.cint 1 (P 354 117 118))] 0 (P 354 107 119))] (P 354 16 120)) (P 354 4 120),
    .assign 3 (P 355 4 13) (.bin .Add (.var 3 (P 355 16 25)) (.list false [(.tup [(.cstr "0" (P 355 30 33)),(.cint 1 (P 355 35 36)),(.cint 1 (P 355 38 39))] 0 (P 355 29 40)),(.tup [(.cint 0 (P 355 43 44)),(.cbool true (P 355 46 50)),(.cnone (P 355 52 56))] 0 (P 355 42 57)),(.tup [(.cint 0 (P 355 60 61)),(.cnone (P 355 63 67)),(.cbool false (P 355 69 74))] 0 (P 355 59 75)),(.tup [(.cint 0 (P 355 78 79)),(.cstr "1" (P 355 81 84)),(.cnone (P 355 86 90))] 0 (P 355 77 91)),(.tup [(.cint 0 (P 355 94 95)),(.cint 1 (P 355 97 98)),(.list false [(.cint 2 (P 355 101 102))] (P 355 100 103))] 0 (P 355 93 104)),(.cnone (P 355 106 110))] (P 355 28 111)) (P 355 16 111)) (P 355 4 111),
    .assign 4 (P 356 4 13) (.bin .Mod (.bin .FloorDiv (.var 1 (P 356 16 26)) (.cint 21 (P 356 30 32)) (P 356 16 32)) (.cint 21 (P 356 35 37)) (P 356 16 37)) (P 356 4 37),
    .assign 5 (P 357 4 18) (.comp true (.tup [(.bin .Mod (.var 6 (P 357 23 29)) (.var 2 (P 357 32 47)) (P 357 23 47)),(.cnone (P 357 49 53)),(.cint 1 (P 357 55 56))] 0 (P 357 22 57)) 6 (P 357 62 68) (.range 3 (P 357 72 77) (.var 4 (P 357 78 87)) (P 357 72 88)) [] { kind := .function,names:=[(".0",.local),("_law_k",.local),("_law_width_here",.free)],isGenerator:=false,isCoroutine:=false,more:=[] } [2] (P 357 21 89)) (P 357 4 89),
    .ite (.bop .And [(.cmp .Eq (.bin .Mod (.var 0 (P 358 7 16)) (.cint 4 (P 358 19 20)) (P 358 7 20)) (.cint 0 (P 358 24 25)) (P 358 7 25)),(.cmp .Lt (.var 4 (P 358 30 39)) (.cint 20 (P 358 42 44)) (P 358 30 44))] (P 358 7 44)) [.expr (.lm .insert (.var 5 (P 359 8 22)) (P 359 8 29) [(.bin .Mod (.var 1 (P 359 30 40)) (.bin .Add (.var 4 (P 359 44 53)) (.cint 1 (P 359 56 57)) (P 359 44 57)) (P 359 30 58)),(.sub (.var 3 (P 359 60 69)) (.bin .Mod (.bin .FloorDiv (.var 0 (P 359 70 79)) (.cint 4 (P 359 83 84)) (P 359 70 84)) (.cint 13 (P 359 87 89)) (P 359 70 89)) (P 359 60 90))] (P 359 8 91)) (P 359 8 91)] [] ⟨358,4,359,91⟩,
    .ite (.cmp .Eq (.bin .Mod (.var 0 (P 360 7 16)) (.cint 4 (P 360 19 20)) (P 360 7 20)) (.cint 1 (P 360 24 25)) (P 360 7 25)) [.assign 5 (P 361 8 22) (.bin .Add (.var 5 (P 361 25 39)) (.bin .Mult (.list true [(.tup [(.cint 0 (P 361 44 45)),(.cint 1 (P 361 47 48)),(.cint 2 (P 361 50 51))] 0 (P 361 43 52))] (P 361 42 53)) (.bin .Sub (.bin .Add (.cint 20 (P 361 57 59)) (.bin .Mod (.bin .FloorDiv (.var 0 (P 361 62 71)) (.cint 4 (P 361 75 76)) (P 361 62 76)) (.cint 2 (P 361 79 80)) (P 361 62 80)) (P 361 57 80)) (.var 4 (P 361 83 92)) (P 361 57 92)) (P 361 42 93)) (P 361 25 93)) (P 361 8 93)] [] ⟨360,4,361,93⟩,
    .ite (.bop .And [(.cmp .Eq (.bin .Mod (.var 0 (P 362 7 16)) (.cint 4 (P 362 19 20)) (P 362 7 20)) (.cint 2 (P 362 24 25)) (P 362 7 25)),(.cmp .Eq (.bin .Mod (.bin .FloorDiv (.var 0 (P 362 30 39)) (.cint 4 (P 362 43 44)) (P 362 30 44)) (.cint 4 (P 362 47 48)) (P 362 30 48)) (.cint 1 (P 362 52 53)) (P 362 30 53))] (P 362 7 53)) [.ret (.sub (.list false [(.bi .tupleA false 20 (P 363 16 21) [(.var 5 (P 363 22 36))] (P 363 16 37)),(.cnone (P 363 39 43)),(.dct (P 363 45 47))] (P 363 15 48)) (.bin .Mod (.bin .FloorDiv (.var 0 (P 363 49 58)) (.cint 16 (P 363 62 64)) (P 363 49 64)) (.cint 3 (P 363 67 68)) (P 363 49 68)) (P 363 15 69)) (P 363 8 69)] [] ⟨362,4,363,69⟩,
    .ret (.var 5 (P 364 11 25)) (P 364 4 25)]
noncomputable def nm_law_good_wish (i:Nat):Str:=(["_law_cell", "_law_place"]:List Str).getD i ""
noncomputable def p_law_good_wish:List PS:=[.ite (.cmp .Eq (.bin .Mod (.var 0 (P 366 7 16)) (.cint 4 (P 366 19 20)) (P 366 7 20)) (.cint 0 (P 366 24 25)) (P 366 7 25)) [.ret (.cmp .Eq (.bin .Mod (.bin .FloorDiv (.var 1 (P 367 15 25)) (.cint 21 (P 367 29 31)) (P 367 15 31)) (.cint 21 (P 367 34 36)) (P 367 15 36)) (.cint 20 (P 367 40 42)) (P 367 15 42)) (P 367 8 42)] [] ⟨366,4,367,42⟩,
    .ite (.cmp .Eq (.bin .Mod (.var 0 (P 368 7 16)) (.cint 4 (P 368 19 20)) (P 368 7 20)) (.cint 1 (P 368 24 25)) (P 368 7 25)) [.ret (.cmp .Eq (.bin .Mod (.bin .FloorDiv (.var 0 (P 369 15 24)) (.cint 4 (P 369 28 29)) (P 369 15 29)) (.cint 2 (P 369 32 33)) (P 369 15 33)) (.cint 0 (P 369 37 38)) (P 369 15 38)) (P 369 8 38)] [] ⟨368,4,369,38⟩,
    .ret (.bop .Or [(.cmp .Eq (.bin .Mod (.var 0 (P 370 11 20)) (.cint 4 (P 370 23 24)) (P 370 11 24)) (.cint 3 (P 370 28 29)) (P 370 11 29)),(.cmp .NotEq (.bin .Mod (.bin .FloorDiv (.var 0 (P 370 33 42)) (.cint 4 (P 370 46 47)) (P 370 33 47)) (.cint 4 (P 370 50 51)) (P 370 33 51)) (.cint 1 (P 370 55 56)) (P 370 33 56))] (P 370 11 56)) (P 370 4 56)]
noncomputable def nm_law_state (i:Nat):Str:=(["_law_table", "_law_numbers", "_law_rows", "_law_number", "_law_order_here"]:List Str).getD i ""
noncomputable def p_law_state:List PS:=[.assign 1 (P 372 4 16) (.meth 387 40 (.var 0 (P 372 19 29)) "numbers" (P 372 19 37) [] (P 372 19 39)) (P 372 4 39),
    .assign 2 (P 373 4 13) (.comp false (.meth 387 64 (.var 0 (P 373 17 27)) "row" (P 373 17 31) [(.var 3 (P 373 32 43))] (P 373 17 44)) 3 (P 373 49 60) (.of (.var 1 (P 373 64 76))) [] { kind := .function,names:=[(".0",.local),("_law_number",.local),("_law_table",.free)],isGenerator:=false,isCoroutine:=false,more:=[] } [0] (P 373 16 77)) (P 373 4 77),
    .ret (.list false [(.var 1 (P 374 12 24)),(.var 2 (P 374 26 35)),(.meth 387 36 (.var 0 (P 374 37 47)) "orders" (P 374 37 54) [] (P 374 37 56)),(.comp false (.meth 387 57 (.var 0 (P 374 59 69)) "listed" (P 374 59 76) [(.var 4 (P 374 77 92))] (P 374 59 93)) 4 (P 374 98 113) (.of (.meth 387 36 (.var 0 (P 374 117 127)) "orders" (P 374 117 134) [] (P 374 117 136))) [] { kind := .function,names:=[(".0",.local),("_law_order_here",.local),("_law_table",.free)],isGenerator:=false,isCoroutine:=false,more:=[] } [0] (P 374 58 137))] (P 374 11 138)) (P 374 4 138)]
noncomputable def nm_law_holds (i:Nat):Str:=(["_law_table", "_law_kind", "_law_thing", "_law_way", "_law_word", "_law_state_here"]:List Str).getD i ""
noncomputable def p_law_holds:List PS:=[.assign 5 (P 376 4 19) (.call 65 (P 376 22 32) [(.var 0 (P 376 33 43))] (P 376 22 44)) (P 376 4 44),
    .ite (.cmp .NotEq (.call 66 (P 377 7 16) [(.var 0 (P 377 17 27)),(.var 1 (P 377 29 38)),(.var 2 (P 377 40 50)),(.var 3 (P 377 52 60))] (P 377 7 61)) (.var 4 (P 377 65 74)) (P 377 7 74)) [.ret (.cbool false (P 378 15 20)) (P 378 8 20)] [] ⟨377,4,378,20⟩,
    .ite (.cmp .Eq (.var 4 (P 379 7 16)) (.cstr "given" (P 379 20 27)) (P 379 7 27)) [.ret (.cbool true (P 380 15 19)) (P 380 8 19)] [] ⟨379,4,380,19⟩,
    .ret (.bop .And [(.call 67 (P 381 11 19) [(.var 0 (P 381 20 30)),(.var 1 (P 381 32 41)),(.var 2 (P 381 43 53)),(.var 3 (P 381 55 63))] (P 381 11 64)),(.cmp .Eq (.call 65 (P 381 69 79) [(.var 0 (P 381 80 90))] (P 381 69 91)) (.var 5 (P 381 95 110)) (P 381 69 110))] (P 381 11 110)) (P 381 4 110)]
noncomputable def nm_law_changed (i:Nat):Str:=(["_law_table", "_law_width_here", "_law_cell", "_law_place", "_law_kind", "_law_number", "_law_column", "_law_value", "_law_word"]:List Str).getD i ""
noncomputable def p_law_changed:List PS:=[.assign 5 (P 383 4 15) (.sub (.list false [(.cint 0 (P 383 19 20)),(.cint 1 (P 383 22 23)),(.cint 2 (P 383 25 26)),(.sub (.list false [(.cint 3 (P 383 29 30)),(.bin .Sub (.cint 0 (P 383 32 33)) (.cint 1 (P 383 36 37)) (P 383 32 37)),(.cbool true (P 383 39 43)),(.cnone (P 383 45 49)),(.cstr "0" (P 383 51 54))] (P 383 28 55)) (.bin .Mod (.bin .FloorDiv (.var 3 (P 383 56 66)) (.cint 4 (P 383 70 71)) (P 383 56 71)) (.cint 5 (P 383 74 75)) (P 383 56 75)) (P 383 28 76))] (P 383 18 77)) (.bin .Mod (.var 3 (P 383 78 88)) (.cint 4 (P 383 91 92)) (P 383 78 92)) (P 383 18 93)) (P 383 4 93),
    .assign 6 (P 384 4 15) (.sub (.list false [(.cint 0 (P 384 19 20)),(.cint 1 (P 384 22 23)),(.bin .Sub (.var 1 (P 384 25 40)) (.cint 1 (P 384 43 44)) (P 384 25 44)),(.sub (.list false [(.var 1 (P 384 47 62)),(.bin .Sub (.cint 0 (P 384 64 65)) (.cint 1 (P 384 68 69)) (P 384 64 69)),(.bin .Sub (.cint 0 (P 384 71 72)) (.cint 2 (P 384 75 76)) (P 384 71 76)),(.cbool true (P 384 78 82)),(.cnone (P 384 84 88))] (P 384 46 89)) (.bin .Mod (.bin .FloorDiv (.var 2 (P 384 90 99)) (.cint 4 (P 384 103 104)) (P 384 90 104)) (.cint 5 (P 384 107 108)) (P 384 90 108)) (P 384 46 109))] (P 384 18 110)) (.bin .Mod (.var 2 (P 384 111 120)) (.cint 4 (P 384 123 124)) (P 384 111 124)) (P 384 18 125)) (P 384 4 125),
    .assign 7 (P 385 4 14) (.sub (.list false [(.cint 5 (P 385 18 19)),(.bin .Sub (.cint 0 (P 385 21 22)) (.bin .Pow (.cint 10 (P 385 25 27)) (.cint 30 (P 385 31 33)) (P 385 25 33)) (P 385 21 33)),(.cbool true (P 385 35 39)),(.cnone (P 385 41 45)),(.cstr "1" (P 385 47 50)),(.list false [(.cint 1 (P 385 53 54))] (P 385 52 55))] (P 385 17 56)) (.bin .Mod (.bin .FloorDiv (.var 2 (P 385 57 66)) (.cint 20 (P 385 70 72)) (P 385 57 72)) (.cint 6 (P 385 75 76)) (P 385 57 76)) (P 385 17 77)) (P 385 4 77),
    .assign 8 (P 386 4 13) (.cstr "given" (P 386 16 23)) (P 386 4 23),
    .ite (.cmp .Eq (.bin .Mod (.var 3 (P 387 7 17)) (.cint 4 (P 387 20 21)) (P 387 7 21)) (.cint 3 (P 387 25 26)) (P 387 7 26)) [.assign 8 (P 388 8 17) (.cstr "no row" (P 388 20 28)) (P 388 8 28)] [.ite (.bop .And [(.cmp .Eq (.var 4 (P 389 9 18)) (.cint 10 (P 389 22 24)) (P 389 9 24)),(.cmp .Eq (.bin .Mod (.var 2 (P 389 29 38)) (.cint 4 (P 389 41 42)) (P 389 29 42)) (.cint 3 (P 389 46 47)) (P 389 29 47))] (P 389 9 47)) [.assign 8 (P 390 8 17) (.cstr "bad column" (P 390 20 32)) (P 390 8 32)] [.ite (.bop .And [(.cmp .Eq (.var 4 (P 391 9 18)) (.cint 10 (P 391 22 24)) (P 391 9 24)),(.cmp .Gt (.bin .Mod (.bin .FloorDiv (.var 2 (P 391 29 38)) (.cint 20 (P 391 42 44)) (P 391 29 44)) (.cint 6 (P 391 47 48)) (P 391 29 48)) (.cint 1 (P 391 51 52)) (P 391 29 52))] (P 391 9 52)) [.assign 8 (P 392 8 17) (.cstr "bad row" (P 392 20 29)) (P 392 8 29)] [] ⟨391,4,392,29⟩] ⟨389,4,392,29⟩] ⟨387,4,392,29⟩,
    .ret (.call 68 (P 393 11 21) [(.var 0 (P 393 22 32)),(.var 4 (P 393 34 43)),(.tup [(.var 5 (P 393 46 57)),(.var 6 (P 393 59 70)),(.var 7 (P 393 72 82))] 0 (P 393 45 83)),(.cnone (P 393 85 89)),(.var 8 (P 393 91 100))] (P 393 11 101)) (P 393 4 101)]
noncomputable def nm_law_full (i:Nat):Str:=(["_law_table", "_law_width_here", "_law_cell", "_law_place", "_law_k", "_law_row_here", "_law_word"]:List Str).getD i ""
noncomputable def p_law_full:List PS:=[.expr (.meth 387 56 (.var 0 (P 395 4 14)) "forget" (P 395 4 21) [(.tup [(.cint 1 (P 395 23 24)),(.cint 0 (P 395 26 27))] 0 (P 395 22 28))] (P 395 4 29)) (P 395 4 29),
    .ite (.cmp .Eq (.bin .Mod (.bin .FloorDiv (.var 3 (P 396 7 17)) (.cint 400 (P 396 21 24)) (P 396 7 24)) (.cint 2 (P 396 27 28)) (P 396 7 28)) (.cint 0 (P 396 32 33)) (P 396 7 33)) [.expr (.meth 387 56 (.var 0 (P 397 8 18)) "forget" (P 397 8 25) [(.tup [(.cint 0 (P 397 27 28))] 0 (P 397 26 30))] (P 397 8 31)) (P 397 8 31)] [] ⟨396,4,397,31⟩,
    .loop 4 (P 398 8 14) (.range 3 (P 398 18 23) (.cint 197 (P 398 24 27)) (P 398 18 28)) [.expr (.meth 387 54 (.var 0 (P 399 8 18)) "put" (P 399 8 22) [(.bin .Mult (.list true [(.var 4 (P 399 24 30))] (P 399 23 31)) (.var 1 (P 399 34 49)) (P 399 23 49))] (P 399 8 50)) (P 399 8 50)] ⟨398,4,399,50⟩,
    .assign 5 (P 400 4 17) (.call 69 (P 400 20 28) [(.var 2 (P 400 29 38)),(.var 3 (P 400 40 50)),(.var 1 (P 400 52 67))] (P 400 20 68)) (P 400 4 68),
    .assign 6 (P 401 4 13) (.cstr "bad row" (P 401 16 25)) (P 401 4 25),
    .ite (.bop .Or [(.cmp .Eq (.bin .Mod (.var 2 (P 402 7 16)) (.cint 9 (P 402 19 20)) (P 402 7 20)) (.cint 8 (P 402 24 25)) (P 402 7 25)),(.bop .And [(.cmp .Eq (.bin .Mod (.var 2 (P 402 30 39)) (.cint 9 (P 402 42 43)) (P 402 30 43)) (.cint 7 (P 402 47 48)) (P 402 30 48)),(.cmp .Eq (.bin .Mod (.bin .FloorDiv (.var 3 (P 402 53 63)) (.cint 6 (P 402 67 68)) (P 402 53 68)) (.cint 2 (P 402 71 72)) (P 402 53 72)) (.cint 0 (P 402 76 77)) (P 402 53 77))] (P 402 30 77))] (P 402 7 78)) [.assign 6 (P 403 8 17) (.cstr "full" (P 403 20 26)) (P 403 8 26)] [] ⟨402,4,403,26⟩,
    .ite (.not (.call 68 (P 404 11 21) [(.var 0 (P 404 22 32)),(.cint 1 (P 404 34 35)),(.var 5 (P 404 37 50)),(.cnone (P 404 52 56)),(.var 6 (P 404 58 67))] (P 404 11 68)) (P 404 7 68)) [.ret (.cbool false (P 405 15 20)) (P 405 8 20)] [] ⟨404,4,405,20⟩,
    .expr (.meth 387 60 (.var 0 (P 406 4 14)) "drop" (P 406 4 19) [(.bin .Mod (.var 3 (P 406 20 30)) (.cint 200 (P 406 33 36)) (P 406 20 36))] (P 406 4 37)) (P 406 4 37),
    .ret (.bop .And [(.cmp .Eq (.meth 387 54 (.var 0 (P 407 11 21)) "put" (P 407 11 25) [(.bin .Mult (.list true [(.cint 0 (P 407 27 28))] (P 407 26 29)) (.var 1 (P 407 32 47)) (P 407 26 47))] (P 407 11 48)) (.cint 200 (P 407 52 55)) (P 407 11 55)),(.call 68 (P 407 60 70) [(.var 0 (P 407 71 81)),(.cint 1 (P 407 83 84)),(.bin .Mult (.list true [(.cint 0 (P 407 87 88))] (P 407 86 89)) (.var 1 (P 407 92 107)) (P 407 86 107)),(.cnone (P 407 109 113)),(.cstr "full" (P 407 115 121))] (P 407 60 122))] (P 407 11 122)) (P 407 4 122)]
noncomputable def nm_law_asked (i:Nat):Str:=(["_law_table", "_law_width_here", "_law_cell", "_law_place", "_law_kind", "_law_order_here", "_law_thing", "_law_kept", "_law_word"]:List Str).getD i ""
noncomputable def p_law_asked:List PS:=[.ite (.bop .And [(.cmp .Eq (.var 4 (P 409 7 16)) (.cint 2 (P 409 20 21)) (P 409 7 21)),(.cmp .Eq (.bin .Mod (.var 2 (P 409 26 35)) (.cint 9 (P 409 38 39)) (P 409 26 39)) (.cint 8 (P 409 43 44)) (P 409 26 44)),(.cmp .Eq (.bin .Mod (.bin .FloorDiv (.var 3 (P 409 50 60)) (.cint 6 (P 409 64 65)) (P 409 50 65)) (.cint 4 (P 409 68 69)) (P 409 50 69)) (.cint 0 (P 409 73 74)) (P 409 50 74))] (P 409 7 75)) [.loop 5 (P 410 12 27) (.of (.list false [(.tup [(.cint 2 (P 410 33 34))] 0 (P 410 32 36)),(.tup [(.cint 0 (P 410 39 40)),(.cint 1 (P 410 42 43))] 0 (P 410 38 44)),(.tup [(.cint 0 (P 410 47 48)),(.cint 2 (P 410 50 51))] 0 (P 410 46 52)),(.tup [(.cint 2 (P 410 55 56)),(.cint 0 (P 410 58 59))] 0 (P 410 54 60)),(.tup [(.cint 1 (P 410 63 64)),(.cint 2 (P 410 66 67))] 0 (P 410 62 68)),(.tup [(.cint 2 (P 410 71 72)),(.cint 1 (P 410 74 75))] 0 (P 410 70 76))] (P 410 31 77))) [.expr (.meth 387 55 (.var 0 (P 411 12 22)) "tell" (P 411 12 27) [(.var 5 (P 411 28 43))] (P 411 12 44)) (P 411 12 44)] ⟨410,8,411,44⟩] [] ⟨409,4,411,44⟩,
    .assign 6 (P 412 4 14) (.call 70 (P 412 17 27) [(.var 2 (P 412 28 37)),(.var 3 (P 412 39 49)),(.var 1 (P 412 51 66))] (P 412 17 67)) (P 412 4 67),
    .assign 7 (P 413 4 13) (.bop .And [(.cmp .In (.var 6 (P 413 16 26)) (.meth 387 36 (.var 0 (P 413 30 40)) "orders" (P 413 30 47) [] (P 413 30 49)) (P 413 16 49)),(.call 71 (P 413 54 69) [(.var 6 (P 413 70 80)),(.var 1 (P 413 82 97))] (P 413 54 98))] (P 413 16 98)) (P 413 4 98),
    .assign 8 (P 414 4 13) (.cstr "bad order" (P 414 16 27)) (P 414 4 27),
    .ite (.bop .And [(.cmp .Eq (.var 4 (P 415 7 16)) (.cint 2 (P 415 20 21)) (P 415 7 21)),(.call 71 (P 415 26 41) [(.var 6 (P 415 42 52)),(.var 1 (P 415 54 69))] (P 415 26 70)),(.not (.var 7 (P 415 80 89)) (P 415 76 89)),(.cmp .Lt (.bi .len false 5 (P 415 96 99) [(.meth 387 36 (.var 0 (P 415 100 110)) "orders" (P 415 100 117) [] (P 415 100 119))] (P 415 96 120)) (.cint 8 (P 415 123 124)) (P 415 96 124))] (P 415 7 125)) [.assign 8 (P 416 8 17) (.cstr "given" (P 416 20 27)) (P 416 8 27)] [] ⟨415,4,416,27⟩,
    .ite (.bop .And [(.cmp .Gt (.var 4 (P 417 7 16)) (.cint 2 (P 417 19 20)) (P 417 7 20)),(.var 7 (P 417 25 34))] (P 417 7 34)) [.assign 8 (P 418 8 17) (.cstr "given" (P 418 20 27)) (P 418 8 27)] [] ⟨417,4,418,27⟩,
    .ret (.call 68 (P 419 11 21) [(.var 0 (P 419 22 32)),(.var 4 (P 419 34 43)),(.var 6 (P 419 45 55)),(.cnone (P 419 57 61)),(.var 8 (P 419 63 72))] (P 419 11 73)) (P 419 4 73)]
noncomputable def nm_law (i:Nat):Str:=(["_law_script", "_law_width_here", "_law_cell", "_law_place", "_law_table", "_law_k", "_law_way", "_law_word", "_law_good", "_law_kind", "_law_road"]:List Str).getD i ""
noncomputable def p_law:List PS:=[.assign 1 (P 421 4 19) (.bin .Add (.cint 3 (P 421 22 23)) (.bin .Mod (.call 72 (P 421 26 33) [(.var 0 (P 421 34 45)),(.cint 0 (P 421 47 48))] (P 421 26 49)) (.cint 4 (P 421 52 53)) (P 421 26 53)) (P 421 22 53)) (P 421 4 53),
    .assign 2 (P 422 4 13) (.call 72 (P 422 16 23) [(.var 0 (P 422 24 35)),(.cint 2 (P 422 37 38))] (P 422 16 39)) (P 422 4 39),
    .assign 3 (P 423 4 14) (.call 72 (P 423 17 24) [(.var 0 (P 423 25 36)),(.cint 3 (P 423 38 39))] (P 423 17 40)) (P 423 4 40),
    .assign 4 (P 424 4 14) (.new 387 52 53 (P 424 17 22) [(.var 1 (P 424 23 38))] (P 424 17 39)) (P 424 4 39),
    .expr (.meth 387 55 (.var 4 (P 425 4 14)) "tell" (P 425 4 19) [(.tup [(.cint 0 (P 425 21 22))] 0 (P 425 20 24))] (P 425 4 25)) (P 425 4 25),
    .loop 5 (P 426 8 14) (.range 3 (P 426 18 23) (.cint 3 (P 426 24 25)) (P 426 18 26)) [.expr (.meth 387 54 (.var 4 (P 427 8 18)) "put" (P 427 8 22) [(.bin .Add (.list false [(.bin .Mod (.call 72 (P 427 24 31) [(.var 0 (P 427 32 43)),(.cint 1 (P 427 45 46))] (P 427 24 47)) (.cint 3 (P 427 50 51)) (P 427 24 51)),(.var 5 (P 427 53 59))] (P 427 23 60)) (.bin .Mult (.list true [(.cint 0 (P 427 64 65))] (P 427 63 66)) (.bin .Sub (.var 1 (P 427 70 85)) (.cint 2 (P 427 88 89)) (P 427 70 89)) (P 427 63 90)) (P 427 23 90))] (P 427 8 91)) (P 427 8 91)] ⟨426,4,427,91⟩,
    .expr (.meth 387 55 (.var 4 (P 428 4 14)) "tell" (P 428 4 19) [(.tup [(.cint 1 (P 428 21 22)),(.cint 0 (P 428 24 25))] 0 (P 428 20 26))] (P 428 4 27)) (P 428 4 27),
    .assign 6 (P 429 4 12) (.bin .Mod (.call 72 (P 429 15 22) [(.var 0 (P 429 23 34)),(.cint 4 (P 429 36 37))] (P 429 15 38)) (.cint 12 (P 429 41 43)) (P 429 15 43)) (P 429 4 43),
    .ite (.cmp .Eq (.var 6 (P 430 7 15)) (.cint 0 (P 430 19 20)) (P 430 7 20)) [.ret (.call 73 (P 431 15 24) [(.var 4 (P 431 25 35)),(.var 1 (P 431 37 52)),(.var 2 (P 431 54 63)),(.var 3 (P 431 65 75))] (P 431 15 76)) (P 431 8 76)] [] ⟨430,4,431,76⟩,
    .ite (.cmp .Gt (.var 6 (P 432 7 15)) (.cint 8 (P 432 18 19)) (P 432 7 19)) [.ret (.call 74 (P 433 15 27) [(.var 4 (P 433 28 38)),(.var 1 (P 433 40 55)),(.var 2 (P 433 57 66)),(.var 3 (P 433 68 78)),(.sub (.list false [(.cint 10 (P 433 81 83)),(.cint 10 (P 433 85 87)),(.cint 10 (P 433 89 91)),(.cint 11 (P 433 93 95))] (P 433 80 96)) (.bin .Mod (.bin .FloorDiv (.call 72 (P 433 97 104) [(.var 0 (P 433 105 116)),(.cint 4 (P 433 118 119))] (P 433 97 120)) (.cint 12 (P 433 124 126)) (P 433 97 126)) (.cint 4 (P 433 129 130)) (P 433 97 130)) (P 433 80 131))] (P 433 15 132)) (P 433 8 132)] [] ⟨432,4,433,132⟩,
    .ite (.cmp .Eq (.var 6 (P 434 7 15)) (.cint 1 (P 434 19 20)) (P 434 7 20)) [.assign 7 (P 435 8 17) (.sub (.list false [(.cstr "bad width" (P 435 21 32)),(.cstr "given" (P 435 34 41))] (P 435 20 42)) (.intb (.cmp .Eq (.bin .Mod (.var 2 (P 435 47 56)) (.cint 8 (P 435 59 60)) (P 435 47 60)) (.cint 7 (P 435 64 65)) (P 435 47 65)) 1 (P 435 43 46) (P 435 43 66)) (P 435 20 67)) (P 435 8 67),
    .ret (.call 68 (P 436 15 25) [(.var 4 (P 436 26 36)),(.cint 0 (P 436 38 39)),(.call 75 (P 436 41 51) [(.var 2 (P 436 52 61))] (P 436 41 62)),(.cnone (P 436 64 68)),(.var 7 (P 436 70 79))] (P 436 15 80)) (P 436 8 80)] [] ⟨434,4,436,80⟩,
    .ite (.cmp .Eq (.var 6 (P 437 7 15)) (.cint 2 (P 437 19 20)) (P 437 7 20)) [.assign 8 (P 438 8 17) (.bop .Or [(.cmp .Eq (.bin .Mod (.var 2 (P 438 20 29)) (.cint 9 (P 438 32 33)) (P 438 20 33)) (.cint 8 (P 438 37 38)) (P 438 20 38)),(.bop .And [(.cmp .Eq (.bin .Mod (.var 2 (P 438 43 52)) (.cint 9 (P 438 55 56)) (P 438 43 56)) (.cint 7 (P 438 60 61)) (P 438 43 61)),(.cmp .Eq (.bin .Mod (.bin .FloorDiv (.var 3 (P 438 66 76)) (.cint 6 (P 438 80 81)) (P 438 66 81)) (.cint 2 (P 438 84 85)) (P 438 66 85)) (.cint 0 (P 438 89 90)) (P 438 66 90))] (P 438 43 90))] (P 438 20 91)) (P 438 8 91),
    .assign 7 (P 439 8 17) (.sub (.list false [(.cstr "bad row" (P 439 21 30)),(.cstr "given" (P 439 32 39))] (P 439 20 40)) (.intb (.var 8 (P 439 45 54)) 1 (P 439 41 44) (P 439 41 55)) (P 439 20 56)) (P 439 8 56),
    .ite (.not (.call 68 (P 440 15 25) [(.var 4 (P 440 26 36)),(.cint 1 (P 440 38 39)),(.call 69 (P 440 41 49) [(.var 2 (P 440 50 59)),(.var 3 (P 440 61 71)),(.var 1 (P 440 73 88))] (P 440 41 89)),(.cnone (P 440 91 95)),(.var 7 (P 440 97 106))] (P 440 15 107)) (P 440 11 107)) [.ret (.cbool false (P 441 19 24)) (P 441 12 24)] [] ⟨440,8,441,24⟩,
    .ret (.cmp .Eq (.meth 387 54 (.var 4 (P 442 15 25)) "put" (P 442 15 29) [(.bin .Mult (.list true [(.cint 0 (P 442 31 32))] (P 442 30 33)) (.var 1 (P 442 36 51)) (P 442 30 51))] (P 442 15 52)) (.bin .Add (.cint 3 (P 442 56 57)) (.intb (.var 8 (P 442 64 73)) 1 (P 442 60 63) (P 442 60 74)) (P 442 56 74)) (P 442 15 74)) (P 442 8 74)] [] ⟨437,4,442,74⟩,
    .ite (.cmp .Lt (.var 6 (P 443 7 15)) (.cint 6 (P 443 18 19)) (P 443 7 19)) [.ret (.call 76 (P 444 15 25) [(.var 4 (P 444 26 36)),(.var 1 (P 444 38 53)),(.var 2 (P 444 55 64)),(.var 3 (P 444 66 76)),(.sub (.list false [(.cint 2 (P 444 79 80)),(.cint 2 (P 444 82 83)),(.cint 3 (P 444 85 86)),(.cint 4 (P 444 88 89))] (P 444 78 90)) (.bin .Mod (.bin .FloorDiv (.call 72 (P 444 91 98) [(.var 0 (P 444 99 110)),(.cint 4 (P 444 112 113))] (P 444 91 114)) (.cint 12 (P 444 118 120)) (P 444 91 120)) (.cint 4 (P 444 123 124)) (P 444 91 124)) (P 444 78 125))] (P 444 15 126)) (P 444 8 126)] [] ⟨443,4,444,126⟩,
    .assign 9 (P 445 4 13) (.bin .Add (.cint 5 (P 445 16 17)) (.bin .Mod (.bin .FloorDiv (.call 72 (P 445 20 27) [(.var 0 (P 445 28 39)),(.cint 4 (P 445 41 42))] (P 445 20 43)) (.cint 12 (P 445 47 49)) (P 445 20 49)) (.cint 5 (P 445 52 53)) (P 445 20 53)) (P 445 16 53)) (P 445 4 53),
    .assign 10 (P 446 4 13) (.sub (.list false [(.cnone (P 446 17 21)),(.tup [(.cint 0 (P 446 24 25))] 0 (P 446 23 27)),(.tup [(.cint 1 (P 446 30 31)),(.cint 0 (P 446 33 34))] 0 (P 446 29 35)),(.tup [(.cint 2 (P 446 38 39)),(.cint 1 (P 446 41 42))] 0 (P 446 37 43)),(.list false [(.cint 0 (P 446 46 47))] (P 446 45 48)),(.tup [(.cbool true (P 446 51 55))] 0 (P 446 50 57)),(.tup [] 0 (P 446 59 61)),(.cint 0 (P 446 63 64)),(.cstr "" (P 446 66 68)),(.list false [] (P 446 70 72))] (P 446 16 73)) (.bin .Mod (.call 72 (P 446 74 81) [(.var 0 (P 446 82 93)),(.cint 5 (P 446 95 96))] (P 446 74 97)) (.cint 10 (P 446 100 102)) (P 446 74 102)) (P 446 16 103)) (P 446 4 103),
    .assign 7 (P 447 4 13) (.sub (.list false [(.cstr "bad wish" (P 447 17 27)),(.cstr "given" (P 447 29 36))] (P 447 16 37)) (.intb (.call 77 (P 447 42 56) [(.var 2 (P 447 57 66)),(.var 3 (P 447 68 78))] (P 447 42 79)) 1 (P 447 38 41) (P 447 38 80)) (P 447 16 81)) (P 447 4 81),
    .ite (.bop .And [(.cmp .Gt (.var 9 (P 448 7 16)) (.cint 7 (P 448 19 20)) (P 448 7 20)),(.cmp .Gt (.bin .Mod (.call 72 (P 448 25 32) [(.var 0 (P 448 33 44)),(.cint 5 (P 448 46 47))] (P 448 25 48)) (.cint 10 (P 448 51 53)) (P 448 25 53)) (.cint 2 (P 448 56 57)) (P 448 25 57))] (P 448 7 57)) [.assign 7 (P 449 8 17) (.cstr "bad order" (P 449 20 31)) (P 449 8 31)] [] ⟨448,4,449,31⟩,
    .ret (.call 68 (P 450 11 21) [(.var 4 (P 450 22 32)),(.var 9 (P 450 34 43)),(.call 78 (P 450 45 54) [(.var 2 (P 450 55 64)),(.var 3 (P 450 66 76)),(.var 1 (P 450 78 93))] (P 450 45 94)),(.var 10 (P 450 96 105)),(.var 7 (P 450 107 116))] (P 450 11 117)) (P 450 4 117)]
noncomputable def gn (i:Nat):Str:=([Str.ofString "isinstance",Str.ofString "int",Str.ofString "bool",Str.ofString "range",Str.ofString "min",Str.ofString "len",Str.ofString "less",Str.ofString "sorted",Str.ofString "set",Str.ofString "max",Str.ofString "Kept.entry_of",Str.ofString "below",Str.ofString "merged",Str.ofString "triple_of",Str.ofString "Kept.bounds",Str.ofString "Kept.behind",Str.ofString "is_whole",Str.ofString "MOST_WIDTH",Str.ofString "BadWidth",Str.ofString "NoRow",Str.ofString "tuple",Str.ofString "Table.has_column",Str.ofString "is_end",Str.ofString "list",Str.ofString "MOST_TRIPLES",Str.ofString "BadWish",Str.ofString "Table.is_triple",Str.ofString "Table.is_order",Str.ofString "BadOrder",Str.ofString "BadRow",Str.ofString "MOST_ROWS",Str.ofString "Full",Str.ofString "Kept.put",Str.ofString "Table.need_row",Str.ofString "Kept.drop",Str.ofString "BadColumn",Str.ofString "Table.orders",Str.ofString "MOST_ORDERS",Str.ofString "Kept.__init__",Str.ofString "Kept",Str.ofString "Table.numbers",Str.ofString "Table.kept_of",Str.ofString "Kept.numbers",Str.ofString "Kept.stretch",Str.ofString "Kept.covers",Str.ofString "Table.need_wish",Str.ofString "Table.cost_of",Str.ofString "Table.costs",Str.ofString "Table.walked",Str.ofString "fits",Str.ofString "Table.ask_by",Str.ofString "Table.plan",Str.ofString "Table.__init__",Str.ofString "Table",Str.ofString "Table.put",Str.ofString "Table.tell",Str.ofString "Table.forget",Str.ofString "Table.listed",Str.ofString "Table.ask",Str.ofString "Table.change",Str.ofString "Table.drop",Str.ofString "_law_act",Str.ofString "BookError",Str.ofString "ValueError",Str.ofString "Table.row",Str.ofString "_law_state",Str.ofString "_law_said",Str.ofString "_law_any",Str.ofString "_law_holds",Str.ofString "_law_row",Str.ofString "_law_order",Str.ofString "_law_good_order",Str.ofString "_law_at",Str.ofString "_law_full",Str.ofString "_law_changed",Str.ofString "_law_width",Str.ofString "_law_asked",Str.ofString "_law_good_wish",Str.ofString "_law_wish"]:List Str).getD i ""
structure Fn where
  body:List PS
  np:Nat
  nv:Nat
noncomputable def fnL:List Fn:=let z:Fn:=⟨[],0,0⟩; [z,z,z,z,z,z,⟨p_less,2,3⟩,z,z,z,⟨p_Kept_entry_of,3,4⟩,⟨p_below,2,5⟩,⟨p_merged,1,8⟩,⟨p_triple_of,2,3⟩,⟨p_Kept_bounds,2,6⟩,⟨p_Kept_behind,2,2⟩,⟨p_is_whole,1,1⟩,z,z,z,z,⟨p_Table_has_column,2,2⟩,⟨p_is_end,1,1⟩,z,z,z,⟨p_Table_is_triple,2,2⟩,⟨p_Table_is_order,2,3⟩,z,z,z,z,⟨p_Kept_put,3,4⟩,⟨p_Table_need_row,2,2⟩,⟨p_Kept_drop,3,3⟩,z,⟨p_Table_orders,1,2⟩,z,⟨p_Kept___init__,2,2⟩,z,⟨p_Table_numbers,1,1⟩,⟨p_Table_kept_of,2,3⟩,⟨p_Kept_numbers,1,2⟩,⟨p_Kept_stretch,2,8⟩,⟨p_Kept_covers,2,3⟩,⟨p_Table_need_wish,2,3⟩,⟨p_Table_cost_of,3,4⟩,⟨p_Table_costs,2,4⟩,⟨p_Table_walked,3,4⟩,⟨p_fits,2,4⟩,⟨p_Table_ask_by,3,4⟩,⟨p_Table_plan,2,5⟩,⟨p_Table___init__,2,2⟩,z,⟨p_Table_put,2,5⟩,⟨p_Table_tell,2,4⟩,⟨p_Table_forget,2,4⟩,⟨p_Table_listed,2,2⟩,⟨p_Table_ask,2,2⟩,⟨p_Table_change,4,7⟩,⟨p_Table_drop,2,4⟩,⟨p_law_act,4,4⟩,z,z,⟨p_Table_row,2,2⟩,⟨p_law_state,1,5⟩,⟨p_law_said,4,4⟩,⟨p_law_any,4,6⟩,⟨p_law_holds,5,6⟩,⟨p_law_row,3,7⟩,⟨p_law_order,3,6⟩,⟨p_law_good_order,2,3⟩,⟨p_law_at,2,2⟩,⟨p_law_full,4,7⟩,⟨p_law_changed,5,9⟩,⟨p_law_width,1,2⟩,⟨p_law_asked,5,9⟩,⟨p_law_good_wish,2,2⟩,⟨p_law_wish,3,7⟩,⟨p_law,1,11⟩]
noncomputable def fnT (g:Nat):Fn:=fnL.getD g ⟨[],0,0⟩
noncomputable def SS:Nat→Nat→Spec
  | 0,_=>fun _ _ _ _=>False
  | k+1,g=>fun ds σ Φ X=>ds.length=(fnT g).np∧vcSs (SS k) ⟨retX X,none⟩ (fnT g).body (initE (List.range (fnT g).np) ds (fnT g).nv) σ (retS Φ)
theorem xs {X:Addr→Store→Prop} {C:Addr} {σ:Store} (h:X C σ):retX X C σ:=⟨σ,Sub.refl σ,h⟩
set_option tactic.hygienic true in
theorem ns {Φ:D→Store→Prop} {ρ:PEnv} {σ:Store} (h:Φ .none σ):retS Φ (.next ρ σ):=⟨σ,Sub.refl σ,h⟩
section
variable {S:Nat→Spec} {X:Exs} {ρ:PEnv} {σ:Store} {Φ:Res→Prop} {Ψ:D→Store→Prop} {Θ:Bool→Store→Prop} {r:List PS} {p xp ap gp ip:Pos}
theorem v_len {i g:Nat} {m:Bool} {o:D} {xs:List D} (hi:ρ.at i=some o) (ho:asL σ o=some xs) (hl:xs.length≤small) (h:Ψ (.int xs.length) σ):(vc S X (.bi .len m g gp [.var i ip] p)).v ρ σ Ψ:=
  v_bi (a_var hi (a_nil (len_at ho hl h)))
theorem i_rng {g:Nat} {e:PE} {n:Int} {K:D→List D→Store→Prop} (hn:n≤1000) (hm:0≤n) (he:∀ {Ψ:D→Store→Prop},Ψ (.int n) σ→(vc S X e).v ρ σ Ψ) (h:K .none (rangeD n) σ):vcI S X (.range g gp e p) ρ σ K:=
  i_range (he ⟨by unfold small; omega,by unfold small; omega,h⟩)
theorem v_sub2 {i j:Nat} {o:D} {xs:List D} {k:Nat} {d:D} {jp:Pos} (hi:ρ.at i=some o) (hj:ρ.at j=some (.int k)) (ho:asL σ o=some xs) (hl:xs.length≤small) (hk:xs[k]?=some d) (h:Ψ d σ):(vc S X (.sub (.var i ip) (.var j jp) p)).v ρ σ Ψ:=
  v_sub (v_var hi (v_var hj (subS_at ho hl hk h)))
theorem v_subc {i k:Nat} {o:D} {xs:List D} {d:D} {jp:Pos} (hi:ρ.at i=some o) (ho:asL σ o=some xs) (hl:xs.length≤small) (hk:xs[k]?=some d) (h:Ψ d σ):(vc S X (.sub (.var i ip) (.cint k jp) p)).v ρ σ Ψ:=
  v_sub (v_var hi (v_cint (subS_at ho hl hk h)))
end
theorem em0 (x:Int) {n:Int} (h:0<n):0≤x%n:=Int.emod_nonneg x (Int.ne_of_gt h)
theorem em1 (x:Int) {n:Int} (h:0<n):x%n<n:=Int.emod_lt_of_pos x h
theorem nlt {f a b:Int} (h:f<a) (hb:a≤b):f≠b:=Int.ne_of_lt (Int.lt_of_lt_of_le h hb)
theorem neq {f a b:Int} (h:f=a) (hab:a≠b):f≠b:=h▸hab
theorem tn {i:Int} {n:Nat} (h0:0≤i) (h1:i<n):i.toNat<n:=(Int.toNat_lt h0).mpr h1
theorem cnd {b:Bool} {X Y:Prop} (h1:b=true→X) (h2:b=false→Y):cond b X Y:=by
  cases b
  · exact h2 rfl
  · exact h1 rfl
theorem lsm {α:Type} {f:α→D} {xs:List α} (h:xs.length≤1000):(xs.map f).length≤small:=by rw [List.length_map]; exact small_ok (by omega)
noncomputable def lessF:List Int→List Int→Bool
  | [],[]=>false
  | [],_::_=>true
  | _::_,[]=>false
  | a::r,b::t=>if a=b then lessF r t else decide (a<b)
theorem lessF_app:∀ (c xs ys:List Int),lessF (c++xs) (c++ys)=lessF xs ys
  | [],_,_=>rfl
  | a::c,xs,ys=>by
    show (if a=a then lessF (c++xs) (c++ys) else _)=_
    rw [if_pos rfl,lessF_app c]
theorem min_if (a b:Nat):(if (b:Int)<a then (b:Int) else a)=((min a b:Nat):Int):=by
  by_cases h:b<a
  · rw [if_pos (Int.ofNat_lt.mpr h),Nat.min_eq_right (Nat.le_of_lt h)]
  · rw [if_neg fun z=>h (Int.ofNat_lt.mp z),Nat.min_eq_left (Nat.le_of_not_lt h)]
theorem cons_of {c r:List Int} {n:Nat} (h:c.length<min (c++r).length n):∃ x t,r=x::t:=by
  cases r with
  | nil=>rw [List.append_nil] at h; exact absurd (Nat.lt_of_lt_of_le h (Nat.min_le_left _ _)) (Nat.lt_irrefl _)
  | cons x t=>exact ⟨x,t,rfl⟩
theorem less_end:∀ {xs ys:List Int} {n:Nat},n=min (n+xs.length) (n+ys.length)→lessF xs ys=decide (((n+xs.length:Nat):Int)<(n+ys.length:Nat))
  | [],[],_,_=>(decide_eq_false (Int.lt_irrefl _)).symm
  | [],_::_,n,_=>(decide_eq_true (Int.ofNat_lt.mpr (Nat.lt_add_of_pos_right (Nat.succ_pos _)))).symm
  | _::_,[],n,_=>(decide_eq_false (fun z=>Nat.not_lt.mpr (Nat.le_add_right n _) (Int.ofNat_lt.mp z))).symm
  | _::_,_::_,n,h=>absurd h (Nat.ne_of_lt (Nat.lt_min.mpr ⟨Nat.lt_add_of_pos_right (Nat.succ_pos _),Nat.lt_add_of_pos_right (Nat.succ_pos _)⟩))
theorem rng_c {n:Nat} {c:Nat} {d:D} (hd:(rangeD (n:Int))[c]?=some d):d = .int c∧c<n:=by
  obtain ⟨i,hi,rfl⟩:=Option.map_eq_some_iff.mp (List.getElem?_map.symm.trans hd)
  obtain ⟨h3,h4⟩:=List.getElem?_eq_some_iff.mp hi
  rw [List.getElem_range] at h4
  rw [List.length_range] at h3
  exact ⟨by rw [h4],h3⟩
theorem get_c (c:List Int) (x:Int) (r:List Int):((c++x::r).map D.int)[c.length]?=some (.int x):=by
  rw [List.getElem?_map,List.getElem?_append_right (Nat.le_refl _),Nat.sub_self]; rfl
theorem snoc_c (c:List Int) (x:Int) (r:List Int):c++x::r=(c++[x])++r:=by rw [List.append_assoc]; rfl
theorem less_ok {k:Nat} {σ:Store} {Φ:D→Store→Prop} {X:Addr→Store→Prop} {u v:D} {xs ys:List Int} (hu:asL σ u=some (xs.map D.int)) (hv:asL σ v=some (ys.map D.int)) (h1:xs.length≤1000) (h2:ys.length≤1000) (h:Φ (.bool (lessF xs ys)) σ):SS (k+1) 6 [u,v] σ Φ X:=by
  refine ⟨rfl,(?_:vcSs _ _ p_less [some u,some v,none] _ _)⟩
  have m1:min xs.length ys.length≤1000:=Nat.le_trans (Nat.min_le_left _ _) h1
  refine s_loop (i_rng (n:=((min xs.length ys.length:Nat):Int)) (Int.ofNat_le.mpr m1) (Int.natCast_nonneg _) (fun {Ψ} h=>v_bi (a_cons (v_len rfl hu (lsm h1) (a_cons (v_len rfl hv (lsm h2) (a_nil ?_)))))) ?_)
  · show Ψ (.int (if ((ys.map D.int).length:Int)<(xs.map D.int).length then ((ys.map D.int).length:Int) else (xs.map D.int).length)) σ
    rw [List.length_map,List.length_map,min_if]; exact h
  refine forS_inv (fun k ρ σ'=>σ'=σ∧(∃ o,ρ=[some u,some v,o])∧∃ c xs' ys',xs=c++xs'∧ys=c++ys'∧c.length=k) (fun _ _ _ _=>trivial) ?_ ?_ ⟨rfl,⟨none,rfl⟩,[],xs,ys,rfl,rfl,rfl⟩
  · rintro k d ρ σ' K hd ⟨rfl,⟨o,rfl⟩,c,xs',ys',rfl,rfl,rfl⟩ hK
    obtain ⟨rfl,hlt⟩:=rng_c hd
    obtain ⟨x,xs',rfl⟩:=cons_of hlt
    obtain ⟨y,ys',rfl⟩:=cons_of (Nat.min_comm _ _▸hlt)
    have gx:=get_c c x xs'
    have gy:=get_c c y ys'
    refine s_ite (t_cmp (v_sub2 rfl rfl hu (lsm h1) gx (v_sub2 rfl rfl hv (lsm h2) gy (cnd (fun q=>?_) (fun q=>?_)))))
    · refine s_ret (v_cmp (v_sub2 rfl rfl hu (lsm h1) gx (v_sub2 rfl rfl hv (lsm h2) gy (retS_ret ?_))))
      rw [lessF_app,lessF,if_neg (of_decide_eq_false (p:=x=y) (Bool.not_eq_true' _ |>.mp q))] at h
      exact h
    · obtain rfl:x=y:=of_decide_eq_true (Bool.not_eq_false' .. |>.mp q)
      exact hK _ _ ⟨rfl,⟨_,rfl⟩,c++[x],xs',ys',snoc_c _ _ _,snoc_c _ _ _,List.length_append⟩
  · rintro ρ σ' ⟨rfl,⟨o,rfl⟩,c,xs',ys',rfl,rfl,hc⟩
    refine s_ret (v_cmp (v_len rfl hu (lsm h1) (v_len rfl hv (lsm h2) (retS_ret ?_))))
    rw [rangeD,List.length_map,List.length_range,Int.toNat_natCast,List.length_append,List.length_append] at hc
    rw [lessF_app,less_end hc] at h
    rw [List.length_map,List.length_map,List.length_append,List.length_append]
    exact h
theorem mid_e (lo hi:Nat):((lo:Int)+hi) / 2=((lo+hi) / 2:Nat):=rfl
theorem mid_lt {lo hi:Nat} (h:lo<hi):lo≤(lo+hi) / 2∧(lo+hi) / 2<hi:=by omega
structure Cut (rows:List (List Int)) (key:List Int) (m:Nat):Prop where
  le:m≤rows.length
  lo:∀ i r,m=i+1→rows[i]?=some r→lessF r key=true
  hi:∀ r,rows[m]?=some r→lessF r key=false
structure BelI (rows:List (List Int)) (key:List Int) (n lo hi:Nat):Prop where
  e:n=hi - lo
  l:lo≤hi
  h:hi≤rows.length
  a:∀ i r,lo=i+1→rows[i]?=some r→lessF r key=true
  b:∀ r,rows[hi]?=some r→lessF r key=false
theorem below_ok {k:Nat} {σ:Store} {Φ:D→Store→Prop} {X:Addr→Store→Prop} {u v:D} {rows:List (List Int)} {key:List Int} (hu:asL σ u=some (rows.map dI)) (hv:asL σ v=some (key.map D.int)) (h1:rows.length≤1000) (h2:key.length≤1000) (h3:∀ r∈rows,r.length≤1000)
    (h:∀ m,Cut rows key m→Φ (.int m) σ):SS (k+2) 11 [u,v] σ Φ X:=by
  refine ⟨rfl,(?_:vcSs _ _ p_below [some u,some v,none,none,none] _ _)⟩
  refine s_assign (vE rfl (s_assign (v_len rfl hu (lsm h1) ?_)))
  rw [List.length_map]
  refine s_while (n:=rows.length) (fun n ρ σ'=>∃ (lo hi:Nat) (o:Option D),BelI rows key n lo hi∧σ'=σ∧ρ=[some u,some v,some (.int lo),some (.int hi),o]) ⟨0,rows.length,none,⟨rfl,Nat.zero_le _,Nat.le_refl _,fun i r e=>(nomatch e),fun r e=>by rw [List.getElem?_eq_none (Nat.le_refl _)] at e; cases e⟩,rfl,rfl⟩ ?_
  rintro n ρ σ' ⟨lo,hi,o,B,rfl,rfl⟩
  refine tE rfl ⟨fun q=>?_,fun q=>?_⟩
  · have hlt:(lo:Int)<hi:=of_decide_eq_true q
    have hlt':=Int.ofNat_lt.mp hlt
    obtain ⟨h1m,h2m⟩:=mid_lt hlt'
    have hm:(lo+hi) / 2<rows.length:=Nat.lt_of_lt_of_le h2m B.h
    refine s_assign (vE (d := .int ((lo+hi) / 2:Nat)) (by rw [← mid_e]; rfl) (s_ite (t_call (a_cons (v_sub2 rfl rfl hu (lsm h1) (get_map dI hm) (a_var rfl (a_nil (less_ok rfl hv (h3 _ (List.getElem_mem _)) h2 (cnd (fun c=>?_) (fun c=>?_))))))))))
    · exact s_assign (vE rfl (s_nil ⟨hi - ((lo+hi) / 2+1),by rw [B.e]; exact Nat.sub_lt_sub_left hlt' (Nat.lt_succ_of_le h1m),(lo+hi) / 2+1,hi,_,⟨rfl,h2m,B.h,fun i r e g=>by cases e; rw [List.getElem?_eq_getElem hm] at g; cases g; exact c,B.b⟩,rfl,rfl⟩))
    · exact s_assign (vE rfl (s_nil ⟨(lo+hi) / 2 - lo,by rw [B.e]; exact Nat.sub_lt_sub_right h1m h2m,lo,(lo+hi) / 2,_,⟨rfl,h1m,Nat.le_of_lt hm,B.a,fun r g=>by rw [List.getElem?_eq_getElem hm] at g; cases g; exact c⟩,rfl,rfl⟩))
  · have e:lo=hi:=Nat.le_antisymm B.l (Nat.not_lt.mp fun z=>of_decide_eq_false q (Int.ofNat_lt.mpr z))
    subst e
    exact s_ret (v_var rfl (retS_ret (h lo ⟨B.h,B.a,B.b⟩)))
noncomputable abbrev Tab:=List (Int×List Int)
noncomputable abbrev tI (xs:List Int):D := .tuple (xs.map D.int)
noncomputable abbrev dN (cols:List Nat):D := .tuple (cols.map fun (k:Nat)=>D.int k)
noncomputable def tupI (x:Int×List Int):Int×D:=(x.1,tI x.2)
structure O where
  a:Addr
  dx:Addr
  e:Addr
  cols:List Nat
  E:List (List Int)
structure Q where
  t:Addr
  dx:Addr
  d:Addr
  k:Addr
  w:Nat
  T:Tab
  f:Nat
  os:List O
noncomputable abbrev fsK (c:D) (e:Addr):List (Str×D):=[("columns",c),("entries",.obj e)]
noncomputable abbrev fsT (w:Nat) (d k:Addr) (f:Int):List (Str×D):=[("width",.int w),("there",.obj d),("kept",.obj k),("following",.int f)]
section
variable {S:Nat→Spec} {X:Exs} {ρ:PEnv} {σ:Store} {Φ:Res→Prop} {Ψ:D→Store→Prop} {Θ:Bool→Store→Prop} {r:List PS} {p xp ap gp ip:Pos}
theorem v_comp {α:Type} {l:List α} {g:α→D} {f:α→Option D} {m:Bool} {elt:PE} {x:Nat} {it:IT} {ifs:List PE} {sc:Scope} {fr:List Nat} {d:D} (hit:∀ {K:D→List D→Store→Prop},K d (l.map g) σ→vcI S X it ρ σ K) (hk:keepS d (l.map g) σ) (hl:l.length≤1000)
    (hs:∀ y∈l,∀ {K:Option D→Store→Prop},K (f y) σ→ifsT (vcL S noX ifs) ((ρ.only fr).put x (g y)) σ fun b σ''=>(b=true→(vc S noX elt).v ((ρ.only fr).put x (g y)) σ'' fun r σ₃=>K (some r) σ₃)∧(b=false→K none σ''))
    (h:mkS m (l.filterMap f) σ Ψ):(vc S X (.comp m elt x xp it ifs sc fr p)).v ρ σ Ψ:=
  hit ⟨lsm hl,compS_mapG g f hk l [] (fun y hy K hK=>hs y hy hK) h⟩
theorem v_compF {α:Type} {l:List α} {g:α→D} {f:α→Option D} {elt:PE} {x:Nat} {it:IT} {ifs:List PE} {sc:Scope} {fr:List Nat} {d:D} (hit:∀ {K:D→List D→Store→Prop},K d (l.map g) σ→vcI S X it ρ σ K) (hk:keepS d (l.map g) σ) (hl:l.length≤1000)
    (hs:∀ y∈l,∀ {K:Option D→Store→Prop},K (f y) σ→ifsT (vcL S noX ifs) ((ρ.only fr).put x (g y)) σ fun b σ''=>(b=true→(vc S noX elt).v ((ρ.only fr).put x (g y)) σ'' fun r σ₃=>K (some r) σ₃)∧(b=false→K none σ''))
    (h:Ψ (.list (l.filterMap f)) σ):(vc S X (.comp false elt x xp it ifs sc fr p)).v ρ σ Ψ:=v_comp (m:=false) hit hk hl hs h
theorem v_comp0 {α:Type} {l:List α} {g:α→D} {f:α→D} {elt:PE} {x:Nat} {it:IT} {sc:Scope} {fr:List Nat} {d:D} (hit:∀ {K:D→List D→Store→Prop},K d (l.map g) σ→vcI S X it ρ σ K) (hk:keepS d (l.map g) σ) (hl:l.length≤1000)
    (hs:∀ y∈l,∀ {K:D→Store→Prop},K (f y) σ→(vc S noX elt).v ((ρ.only fr).put x (g y)) σ K) (h:Ψ (.list (l.map f)) σ):(vc S X (.comp false elt x xp it [] sc fr p)).v ρ σ Ψ:=
  v_compF (f:=fun y=>some (f y)) hit hk hl (fun y hy K hK=>⟨fun _=>hs y hy hK,fun e=>nomatch e⟩) (by rw [List.filterMap_eq_map']; exact h)
theorem i_attr {C i:Nat} {n:Str} {a dx:Addr} {fs:List (Str×D)} {d:D} {ds:List D} {K:D→List D→Store→Prop} (hi:ρ.at i=some (.obj a)) (ha:σ a=some (.inst C dx fs)) (hf:getF n fs=some d) (hd:asL σ d=some ds) (h:K d ds σ):vcI S X (.of (.attr C (.var i ip) n p)) ρ σ K:=
  i_of (v_attr hi ha hf ⟨ds,hd,h⟩)
theorem add_list {xs ys:List D} (hl:xs.length+ys.length≤2000) (h:Ψ (.list (xs++ys)) σ):binS .Add (.list xs) (.list ys) σ Ψ:=⟨small_ok (by omega),h⟩
theorem asL_ent {σ:Store} {e:Addr} {xs:List D} (h:σ e=some (.mlist xs)):asL σ (.obj e)=some xs:=by simp only [asL,h]
theorem set_ne {σ:Store} {a x:Addr} {m:MObj} (h:x≠a):(σ.set a m) x=σ x:=if_neg h
end
theorem col_f (c:D) (e:Addr):getF "columns" (fsK c e)=some c:=if_pos rfl
theorem ent_f (c:D) (e:Addr):getF "entries" (fsK c e)=some (.obj e):=(if_neg (by decide)).trans (if_pos rfl)
theorem noK {n:Str} (c:D) (e:Addr) (h:(decide (("columns" : Str)=n) || decide (("entries" : Str)=n))=false):getF n (fsK c e)=none:=by
  have h:=Bool.or_eq_false_iff.mp h
  exact (if_neg (of_decide_eq_false h.1)).trans (if_neg (of_decide_eq_false h.2))
noncomputable def entF (cols:List Nat) (x:Int×List Int):List Int:=cols.map (fun c=>x.2.getD c 0)++[x.1]
noncomputable def SortE (E:List (List Int)):Prop:=E.Pairwise fun a b=>lessF a b=true
noncomputable def whole:D→Bool
  | .int _=>true
  | _=>false
noncomputable def hasCol (w:Nat):D→Bool
  | .int i=>decide (0≤i)&&decide (i<w)
  | _=>false
noncomputable def natOf:D→Nat
  | .int i=>i.toNat
  | _=>0
noncomputable def isOrd (w:Nat):D→Bool
  | .tuple ds=>!ds.isEmpty&&(ds.all (hasCol w)&&decide ((keysOf (bitsOf (ds.map natOf))).length=ds.length))
  | _=>false
structure KO (w:Nat) (T:Tab) (o:O):Prop where
  s:SortE o.E
  p:o.E.Perm (T.map (entF o.cols))
  cw:∀ c∈o.cols,c<w
  cl:o.cols.length≤100
structure TT (w:Nat) (T:Tab) (f:Nat):Prop where
  w1:1≤w
  w6:w≤6
  n:T.length≤200
  r:∀ x∈T,x.2.length=w
  k:T.Pairwise fun a b=>a.1<b.1
  z:∀ x∈T,0≤x.1∧x.1<f
structure TS (σ:Store) (q:Q):Prop where
  tb:σ q.t=some (.inst 387 q.dx (fsT q.w q.d q.k q.f))
  di:σ q.d=some (.mdict (q.T.map tupI))
  ke:σ q.k=some (.mlist (q.os.map fun o => .obj o.a))
  ob:∀ o∈q.os,σ o.a=some (.inst 218 o.dx (fsK (dN o.cols) o.e))
  en:∀ o∈q.os,σ o.e=some (.mlist (o.E.map dI))
  pw:(q.os.map (·.e)).Nodup
  kn:q.k ∉ q.os.map (·.e)
structure TI (σ:Store) (q:Q):Prop where
  s:TS σ q
  ok:∀ o∈q.os,KO q.w q.T o
  io:∀ o∈q.os,isOrd q.w (dN o.cols)=true
  ol:q.os.length≤8
  tt:TT q.w q.T q.f
theorem KO.len {w T o} (h:KO w T o):o.E.length=T.length:=by rw [h.p.length_eq,List.length_map]
theorem KO.rl {w T o} (h:KO w T o):∀ r∈o.E,r.length≤1000:=fun r hr=>by
  obtain ⟨x,_,rfl⟩:=List.mem_map.mp (h.p.mem_iff.mp hr)
  unfold entF
  have:=h.cl
  rw [List.length_append,List.length_map]
  exact Nat.le_trans (Nat.add_le_add_right this 1) (by decide)
theorem kinit_ok {k:Nat} {σ:Store} {Φ:D→Store→Prop} {X:Addr→Store→Prop} {a dx:Addr} {c:D} (ha:σ a=some (.inst 218 dx [])) (h:∀ e,freshIn (σ.set a (.inst 218 dx [("columns",c)])) e→Φ .none (((σ.set a (.inst 218 dx [("columns",c)])).set e (.mlist [])).set a (.inst 218 dx (fsK c e)))):SS (k+1) 38 [.obj a,c] σ Φ X:=by
  refine ⟨rfl,(?_:vcSs _ _ p_Kept___init__ [some (.obj a),some c] _ _)⟩
  refine s_sattr (v_var rfl (v_var rfl (setS_at ha (by decide) (s_sattr (v_mlist (a_nil ⟨rfl,fun e he=>v_var rfl (setS_at (dx:=dx) (fs:=[("columns",c)]) ?_ (Nat.le_of_ble_eq_true rfl) (s_nil (ns ?_)))⟩))))))
  · have hne:a≠e:=fun q=>by have:=he.1; rw [← q,set_at] at this; cases this
    rw [set_ne hne,set_at]; rfl
  · exact h e he
theorem entry_ok {k:Nat} {σ:Store} {Φ:D→Store→Prop} {X:Addr→Store→Prop} {o:O} {n:Int} {row:List Int} (ha:σ o.a=some (.inst 218 o.dx (fsK (dN o.cols) o.e))) (hc:∀ c∈o.cols,c<row.length) (hr:row.length≤6) (hl:o.cols.length≤100) (h:Φ (dI (entF o.cols (n,row))) σ):SS (k+1) 10 [.obj o.a,.int n,tI row] σ Φ X:=by
  refine ⟨rfl,(?_:vcSs _ _ p_Kept_entry_of [some (.obj o.a),some (.int n),some (tI row),none] _ _)⟩
  refine s_ret (v_bin (v_comp0 (l:=o.cols) (g:=fun (k:Nat) => .int k) (f:=fun c => .int (row.getD c 0)) (i_attr rfl ha (col_f _ _) rfl) trivial (by omega) (fun c hm K hK=>v_sub2 rfl rfl rfl (lsm (by omega)) ?_ hK) (vE rfl (add_list ?_ (retS_ret ?_)))))
  · rw [get_map_int (hc c hm),List.getD_eq_getElem?_getD,List.getElem?_eq_getElem (hc c hm)]; rfl
  · rw [List.length_map]; exact Nat.le_trans (Nat.add_le_add_right hl 1) (by decide)
  · have e:o.cols.map (fun c=>D.int (row.getD c 0))++[D.int n]=(entF o.cols (n,row)).map D.int:=by
      unfold entF; rw [List.map_append,List.map_map]; rfl
    rw [e]; exact h
set_option tactic.hygienic true in
theorem lessF_trans:∀ a b c:List Int,lessF a b=true→lessF b c=true→lessF a c=true
  | [],[],_,h,_=>nomatch h
  | [],_::_,[],_,h=>nomatch h
  | [],_::_,_::_,_,_=>rfl
  | _::_,[],_,h,_=>nomatch h
  | _::_,_::_,[],_,h=>nomatch h
  | x :: a,y::b,z::c,h,h'=>by
    unfold lessF at h h' ⊢
    split at h
    · rename_i e
      subst e
      split at h'
      · rename_i e'; rw [if_pos e']; exact lessF_trans a b c h h'
      · rename_i e'; rw [if_neg e']; exact h'
    · have h1:=of_decide_eq_true h
      split at h'
      · rename_i e e'; subst e'; rw [if_neg e]; exact h
      · have h2:=of_decide_eq_true h'
        rw [if_neg (Int.ne_of_lt (Int.lt_trans h1 h2))]; exact decide_eq_true (Int.lt_trans h1 h2)
theorem lessF_irr:∀ a:List Int,lessF a a=false
  | []=>rfl
  | x::a=>(if_pos rfl).trans (lessF_irr a)
theorem lessF_total:∀ a b:List Int,a≠b→lessF a b=false→lessF b a=true
  | [],[],h,_=>absurd rfl h
  | [],_::_,_,h=>nomatch h
  | _::_,[],_,_=>rfl
  | x :: a,y::b,h,h'=>by
    unfold lessF at h' ⊢
    by_cases e:x=y
    · subst e
      rw [if_pos rfl] at h' ⊢
      exact lessF_total a b (fun q=>h (by rw [q])) h'
    · rw [if_neg e] at h'
      rw [if_neg (Ne.symm e)]
      exact decide_eq_true (Int.lt_iff_le_and_ne.mpr ⟨Int.not_lt.mp (of_decide_eq_false h'),Ne.symm e⟩)
theorem sort_get {E:List (List Int)} (h:SortE E) {i j:Nat} {x y:List Int} (hij:i<j) (hi:E[i]?=some x) (hj:E[j]?=some y):lessF x y=true:=by
  obtain ⟨h1,rfl⟩:=List.getElem?_eq_some_iff.mp hi
  obtain ⟨h2,rfl⟩:=List.getElem?_eq_some_iff.mp hj
  exact List.pairwise_iff_getElem.mp h i j h1 h2 hij
set_option tactic.hygienic true in
theorem put_ok {E:List (List Int)} {x:List Int} {m:Nat} (h:SortE E) (hx:x ∉ E) (c:Cut E x m):SortE (E.take m++x::E.drop m)∧(E.take m++x::E.drop m).Perm (x::E):=by
  have ht:∀ a∈E.take m,lessF a x=true:=fun a ha=>by
    obtain ⟨i,hi⟩:=List.mem_iff_getElem?.mp ha
    rw [List.getElem?_take] at hi
    split at hi
    · rename_i hlt
      obtain ⟨j,rfl⟩:∃ j,m=j+1:=⟨m - 1,by omega⟩
      have hj:j<E.length:=c.le
      have l:=c.lo j E[j] rfl (List.getElem?_eq_getElem hj)
      rcases Nat.lt_or_ge i j with q | q
      · exact lessF_trans _ _ _ (sort_get h q hi (List.getElem?_eq_getElem hj)) l
      · cases (Nat.le_antisymm q (Nat.le_of_lt_succ hlt))
        rw [List.getElem?_eq_getElem hj] at hi
        cases hi; exact l
    · cases hi
  have hd:∀ a∈E.drop m,lessF x a=true:=fun a ha=>by
    obtain ⟨i,hi⟩:=List.mem_iff_getElem?.mp ha
    rw [List.getElem?_drop] at hi
    have hm:m<E.length:=Nat.lt_of_le_of_lt (Nat.le_add_right m i) (List.getElem?_eq_some_iff.mp hi).1
    have l:=lessF_total _ _ (fun (q:E[m]=x)=>hx (q▸List.getElem_mem hm)) (c.hi E[m] (List.getElem?_eq_getElem hm))
    rcases Nat.eq_zero_or_pos i with q | q
    · subst q
      rw [Nat.add_zero,List.getElem?_eq_getElem hm] at hi
      cases hi; exact l
    · exact lessF_trans _ _ _ l (sort_get h (Nat.lt_add_of_pos_right q) (List.getElem?_eq_getElem hm) hi)
  refine ⟨List.pairwise_append.mpr ⟨h.sublist (List.take_sublist _ _),List.pairwise_cons.mpr ⟨hd,h.sublist (List.drop_sublist _ _)⟩,fun a ha b hb=>?_⟩,List.perm_middle.trans (by rw [List.take_append_drop])⟩
  rcases List.mem_cons.mp hb with rfl | hb
  · exact ht a ha
  · exact lessF_trans _ _ _ (ht a ha) (hd b hb)
theorem drop_ok {E:List (List Int)} {x:List Int} {m:Nat} (h:SortE E) (hx:x∈E) (c:Cut E x m):E[m]?=some x∧SortE (E.eraseIdx m)∧(x::E.eraseIdx m).Perm E:=by
  obtain ⟨j,hj⟩:=List.mem_iff_getElem?.mp hx
  have hjl:=(List.getElem?_eq_some_iff.mp hj).1
  have e:j=m:=by
    rcases Nat.lt_trichotomy j m with q | q | q
    · obtain ⟨i,rfl⟩:∃ i,m=i+1:=⟨m - 1,by omega⟩
      have hi:i<E.length:=c.le
      have l:=c.lo i E[i] rfl (List.getElem?_eq_getElem hi)
      have z:lessF x x=true:=by
        rcases Nat.lt_or_ge j i with q' | q'
        · exact lessF_trans _ _ _ (sort_get h q' hj (List.getElem?_eq_getElem hi)) l
        · cases (Nat.le_antisymm q' (Nat.le_of_lt_succ q))
          rw [List.getElem?_eq_getElem hi] at hj
          cases hj; exact l
      rw [lessF_irr] at z; cases z
    · exact q
    · have hm:=Nat.lt_trans q hjl
      have l:=c.hi E[m] (List.getElem?_eq_getElem hm)
      rw [sort_get h q (List.getElem?_eq_getElem hm) hj] at l; cases l
  subst e
  refine ⟨hj,h.sublist (List.eraseIdx_sublist _ _),?_⟩
  obtain ⟨_,rfl⟩:=List.getElem?_eq_some_iff.mp hj
  rw [List.eraseIdx_eq_take_drop_succ]
  refine List.perm_middle.symm.trans ?_
  rw [← List.drop_eq_getElem_cons hjl,List.take_append_drop]
theorem ent_inj {cols:List Nat} {x y:Int×List Int} (h:entF cols x=entF cols y):x.1=y.1:=by
  have:=congrArg List.getLast? h
  unfold entF at this
  rw [List.getLast?_concat,List.getLast?_concat] at this
  exact Option.some.inj this
theorem lsE {α:Type} {f:α→D} {xs:List α} (h:xs.length≤200):(xs.map f).length≤small:=lsm (Nat.le_trans h (by decide))
section
variable {k:Nat} {σ:Store} {Φ:D→Store→Prop} {X:Addr→Store→Prop} {o:O} {w:Nat} {T:Tab} {n:Int} {row:List Int}
theorem ent_l (hl:o.cols.length≤100):(entF o.cols (n,row)).length≤1000:=by
  unfold entF
  rw [List.length_append,List.length_map]
  exact Nat.le_trans (Nat.add_le_add_right hl 1) (by decide)
theorem kput_ok (ha:σ o.a=some (.inst 218 o.dx (fsK (dN o.cols) o.e))) (he:σ o.e=some (.mlist (o.E.map dI))) (K:KO w T o) (hT:T.length≤200) (hw:w≤6) (hr:row.length=w) (hn:∀ x∈T,x.1≠n) (h:∀ E',SortE E'→E'.Perm (entF o.cols (n,row)::o.E)→Φ .none (σ.set o.e (.mlist (E'.map dI)))):SS (k+3) 32 [.obj o.a,.int n,tI row] σ Φ X:=by
  refine ⟨rfl,(?_:vcSs _ _ p_Kept_put [some (.obj o.a),some (.int n),some (tI row),none] _ _)⟩
  have hl:o.E.length≤200:=K.len▸hT
  refine s_assign (v_meth rfl ha (noK _ _ rfl) (aE rfl (entry_ok ha (fun c hc=>hr▸K.cw c hc) (hr▸hw) K.cl (s_expr (v_lm (v_attr rfl ha (ent_f _ _) ⟨⟨o.e,_,rfl,he⟩,a_cons (v_call (a_cons (v_attr rfl ha (ent_f _ _) (a_var rfl (a_nil (below_ok (asL_ent he) rfl (Nat.le_trans hl (by decide)) (ent_l K.cl) K.rl fun m c=>a_var rfl (a_nil ?_)))))))⟩))))))
  refine ⟨o.e,_,rfl,he,Int.natCast_nonneg m,by rw [List.length_map]; exact Int.ofNat_le.mpr c.le,lsE hl,s_nil (ns ?_)⟩
  have hx:entF o.cols (n,row) ∉ o.E:=fun q=>by
    obtain ⟨x,hx,e⟩:=List.mem_map.mp (K.p.mem_iff.mp q)
    exact hn x hx (ent_inj e)
  have z:=h _ (put_ok K.s hx c).1 (put_ok K.s hx c).2
  rw [List.map_append,List.map_cons,List.map_take,List.map_drop] at z
  exact z
theorem kdrop_ok (ha:σ o.a=some (.inst 218 o.dx (fsK (dN o.cols) o.e))) (he:σ o.e=some (.mlist (o.E.map dI))) (K:KO w T o) (hT:T.length≤200) (hw:w≤6) (hr:row.length=w) (hn:(n,row)∈T) (h:∀ E',SortE E'→(entF o.cols (n,row)::E').Perm o.E→Φ .none (σ.set o.e (.mlist (E'.map dI)))):SS (k+3) 34 [.obj o.a,.int n,tI row] σ Φ X:=by
  refine ⟨rfl,(?_:vcSs _ _ p_Kept_drop [some (.obj o.a),some (.int n),some (tI row)] _ _)⟩
  have hl:o.E.length≤200:=K.len▸hT
  refine s_expr (v_lm (v_attr rfl ha (ent_f _ _) ⟨⟨o.e,_,rfl,he⟩,a_cons (v_call (a_cons (v_attr rfl ha (ent_f _ _) (a_cons (v_meth rfl ha (noK _ _ rfl) (aE rfl (entry_ok ha (fun c hc=>hr▸K.cw c hc) (hr▸hw) K.cl (a_nil (below_ok (asL_ent he) rfl (Nat.le_trans hl (by decide)) (ent_l K.cl) K.rl fun m c=>a_nil ?_)))))))))⟩))
  have d:=drop_ok K.s (K.p.mem_iff.mpr (List.mem_map_of_mem hn)) c
  have z:=h _ d.2.1 d.2.2
  rw [List.eraseIdx_eq_take_drop_succ,List.map_append,List.map_take,List.map_drop,← List.eraseIdx_eq_take_drop_succ] at z
  exact ⟨o.e,_,_,rfl,he,Int.natCast_nonneg m,by rw [Int.toNat_natCast,List.getElem?_map,d.1]; rfl,lsE hl,s_nil (ns z)⟩
theorem knum_ok (ha:σ o.a=some (.inst 218 o.dx (fsK (dN o.cols) o.e))) (he:σ o.e=some (.mlist (o.E.map dI))) (K:KO w T o) (hT:T.length≤200) (h:Φ (dI (o.E.map fun e=>e.getLast?.getD 0)) σ):SS (k+1) 42 [.obj o.a] σ Φ X:=by
  refine ⟨rfl,(?_:vcSs _ _ p_Kept_numbers [some (.obj o.a),none] _ _)⟩
  have hl:o.E.length≤200:=K.len▸hT
  refine s_ret (v_comp0 (l:=o.E) (g:=dI) (f:=fun e => .int (e.getLast?.getD 0)) (i_attr rfl ha (ent_f _ _) (asL_ent he)) he (Nat.le_trans hl (by decide)) (fun e hm K' hK=>v_sub (v_var rfl (vE rfl (subS_last rfl (lsm (K.rl e hm)) ?_ hK)))) (retS_ret (by have h':Φ (.list _) σ:=h; rw [List.map_map] at h'; exact h')))
  obtain ⟨x,_,rfl⟩:=List.mem_map.mp (K.p.mem_iff.mp hm)
  unfold entF
  rw [List.map_append,List.getLast?_append,List.getLast?_concat]; rfl
end
set_option tactic.hygienic true in
theorem for_st {step:D→PEnv→Store→(Res→Prop)→Prop} {keep:Store→Prop} {Φ:Res→Prop} {α:Type} {g:α→D} (P:List α→PEnv→Store→Prop) (hk:∀ l ρ σ,P l ρ σ→keep σ)
    (hs:∀ y l ρ σ,P (y::l) ρ σ→∀ Ψ:Res→Prop,(∀ ρ' σ',P l ρ' σ'→Ψ (.next ρ' σ'))→(∀ d σ',Φ (.ret d σ')→Ψ (.ret d σ'))→step (g y) ρ σ Ψ) (he:∀ ρ σ,P [] ρ σ→Φ (.next ρ σ)):∀ (l:List α) {ρ:PEnv} {σ:Store},P l ρ σ→forS step keep (l.map g) ρ σ Φ
  | [],ρ,σ,h=>he ρ σ h
  | y::l,ρ,σ,h=>hs y l ρ σ h _ (fun ρ' σ' h'=>⟨hk _ _ _ h',for_st P hk hs he l h'⟩) fun _ _ h'=>h'
noncomputable abbrev Tri:=Nat×Option Int×Option Int
noncomputable abbrev triD (t:Tri):D := .tuple [.int t.1,dOpt t.2.1,dOpt t.2.2]
section
variable {k:Nat} {σ:Store} {Φ:D→Store→Prop} {X:Addr→Store→Prop} {o:O} {w:Nat} {T:Tab} {W:List Tri}
theorem tri_ok {c:Int} (h0:Φ .none σ) (h1:∀ t:Tri,Φ (triD t) σ):SS (k+1) 13 [.list (W.map triD),.int c] σ Φ X:=by
  refine ⟨rfl,(?_:vcSs _ _ p_triple_of [some (.list (W.map triD)),some (.int c),none] _ _)⟩
  refine s_loop (i_var rfl rfl (for_st (fun _ ρ σ'=>∃ o,σ'=σ∧ρ=[some (.list (W.map triD)),some (.int c),o]) (fun _ _ _ _=>trivial) ?_ ?_ W ⟨none,rfl,rfl⟩))
  · rintro t l ρ σ' ⟨o,rfl,rfl⟩ Ψ hn hr
    exact s_ite (tE rfl (cnd (fun _=>s_ret (vE rfl (hr _ _ (retS_ret (h1 t))))) fun _=>hn _ _ ⟨_,rfl,rfl⟩))
  · rintro ρ σ' ⟨o,rfl,rfl⟩
    exact s_ret (vE rfl (retS_ret h0))
theorem fits_ok {row:List Int} (hr:row.length≤6) (hw:∀ t∈W,t.1<row.length) (h:∀ b,Φ (.bool b) σ):SS (k+1) 49 [tI row,.list (W.map triD)] σ Φ X:=by
  refine ⟨rfl,(?_:vcSs _ _ p_fits [some (tI row),some (.list (W.map triD)),none,none] _ _)⟩
  refine s_loop (i_var rfl rfl (for_st (fun l ρ σ'=>∃ o o',(∀ t∈l,t.1<row.length)∧σ'=σ∧ρ=[some (tI row),some (.list (W.map triD)),o,o']) (fun _ _ _ _=>trivial) ?_ ?_ W ⟨none,none,hw,rfl,rfl⟩))
  · rintro ⟨c,lo,hi⟩ l ρ σ' ⟨o,o',hl,rfl,rfl⟩ Ψ hn hr'
    obtain ⟨hc,hl⟩:=List.forall_mem_cons.mp hl
    refine s_assign (v_sub (v_var rfl (vE rfl (subS_at rfl (lsm (Nat.le_trans hr (by decide))) (get_map_int hc) ?_))))
    have hF:=hr' _ σ' (retS_ret (h false))
    have hN:=hn [some (tI row),some (.list (W.map triD)),some (triD (c,lo,hi)),some (.int row[c])] σ' ⟨_,_,hl,rfl,rfl⟩
    have h2:vcSs (SS k) ⟨retX X,none⟩ (p_fits.drop 0|>fun
      | .loop _ _ _ b _::_=>b.drop 2
      | _=>[]) [some (tI row),some (.list (W.map triD)),some (triD (c,lo,hi)),some (.int row[c])] σ' Ψ:=by
      cases hi with
      | none=>exact s_ite (t_and (tE rfl (kF' rfl hN)))
      | some y=>exact s_ite (t_and (tE rfl (kT' rfl (tE rfl ⟨fun q=>hN,fun q=>s_ret (vE rfl hF)⟩))))
    cases lo with
    | none=>exact s_ite (t_and (tE rfl (kF' rfl h2)))
    | some y=>exact s_ite (t_and (tE rfl (kT' rfl (tE rfl ⟨fun q=>h2,fun q=>s_ret (vE rfl hF)⟩))))
  · rintro ρ σ' ⟨o,o',_,rfl,rfl⟩
    exact s_ret (vE rfl (retS_ret (h true)))
theorem covers_ok (ha:σ o.a=some (.inst 218 o.dx (fsK (dN o.cols) o.e))) (h:∀ b,Φ (.bool b) σ):SS (k+1) 44 [.obj o.a,.list (W.map triD)] σ Φ X:=by
  refine ⟨rfl,(?_:vcSs _ _ p_Kept_covers [some (.obj o.a),some (.list (W.map triD)),none] _ _)⟩
  refine s_loop (i_var rfl rfl (for_st (fun _ ρ σ'=>∃ x,σ'=σ∧ρ=[some (.obj o.a),some (.list (W.map triD)),x]) (fun _ _ _ _=>trivial) ?_ ?_ W ⟨none,rfl,rfl⟩))
  · rintro t l ρ σ' ⟨x,rfl,rfl⟩ Ψ hn hr
    refine s_ite (t_cmp (vE rfl (v_attr rfl ha (col_f _ _) (.inl ⟨o.cols.map Int.ofNat,by rw [List.map_map]; rfl,cnd (fun _=>s_ret (vE rfl (hr _ _ (retS_ret (h false))))) fun _=>hn _ _ ⟨_,rfl,rfl⟩⟩))))
  · rintro ρ σ' ⟨x,rfl,rfl⟩
    exact s_ret (vE rfl (retS_ret (h true)))
end
section
variable {S:Nat→Spec} {X:Exs} {ρ:PEnv} {σ:Store} {Φ:Res→Prop} {Ψ:D→Store→Prop} {Θ:Bool→Store→Prop} {r:List PS} {p xp ap gp ip:Pos}
theorem v_mmd {mx:Bool} {g:Nat} {e:PE} {kp cp:Pos} (h:(vc S X e).v ρ σ fun d σ'=>mmS mx d σ' Ψ):(vc S X (.mmd mx g gp e cp kp p)).v ρ σ Ψ:=h
theorem v_sset {g g':Nat} {e:PE} {gp' p':Pos} (h:(vc S X e).v ρ σ fun d σ'=>ssetS d σ' Ψ):(vc S X (.sset g gp g' gp' e p' p)).v ρ σ Ψ:=h
theorem v_app {i:Nat} {e:PE} {a:Addr} {xs:List D} (hi:ρ.at i=some (.obj a)) (ha:σ a=some (.mlist xs)) (he:(vc S X e).v ρ σ fun b σ₂=>appS (.obj a) b σ₂ Ψ):(vc S X (.app (.var i ip) ap e p)).v ρ σ Ψ:=
  v_var (Ψ:=fun a σ₁=>isML a σ₁∧(vc S X e).v ρ σ₁ fun b σ₂=>appS a b σ₂ Ψ) (S:=S) (X:=X) (p:=ip) hi ⟨⟨xs,ha⟩,he⟩
theorem v_slc1 {m:Bool} {o e:PE} {sp:Pos} (h:(vc S X o).v ρ σ fun a σ₁=>(vc S X e).v ρ σ₁ fun d σ₂=>slcS m a none (some d) σ₂ Ψ):(vc S X (.slc m o none (some e) sp p)).v ρ σ Ψ:=h
theorem t_orc {e:PE} {es:List PE} (h:(vc S X e).t ρ σ fun b σ'=>(b=true→Θ true σ')∧(b=false→(vc S X (.bop .Or es p)).t ρ σ' Θ)):(vc S X (.bop .Or (e::es) p)).t ρ σ Θ:=h
theorem t_orn (h:Θ false σ):(vc S X (.bop .Or [] p)).t ρ σ Θ:=h
theorem i_rng2 {g i j:Nat} {a b:Nat} {K:D→List D→Store→Prop} {jp:Pos} (hi:ρ.at i=some (.int a)) (hj:ρ.at j=some (.int b)) (ha:a≤200) (hb:b≤200) (h:K .none (rangeD2 a b) σ):vcI S X (.range2 g gp (.var i ip) (.var j jp) p) ρ σ K:=
  v_var (S:=S) (X:=X) (p:=ip) (Ψ:=fun d σ₁=>(vc S X (.var j jp)).v ρ σ₁ fun e σ₂=>match d,e with
    | .int x,.int y => -small≤x∧x≤small ∧ -small≤y∧y≤small∧K .none (rangeD2 x y) σ₂
    | _,_=>False) hi (v_var hj (by unfold small; exact ⟨by omega,by omega,by omega,by omega,h⟩))
theorem add_ol {a:Addr} {xs ys:List D} (ha:σ a=some (.mlist xs)) (hl:xs.length+ys.length≤2000) (h:Ψ (.list (xs++ys)) σ):binS .Add (.obj a) (.list ys) σ Ψ:=⟨xs,ys,asL_ent ha,rfl,small_ok (by omega),.inl ⟨rfl,rfl,h⟩⟩
theorem fr_ne {a x:Addr} {m:MObj} (hf:freshIn σ a) (hx:σ x=some m):x≠a:=fun q=>by rw [q,hf.1] at hx; cases hx
theorem fr_at {a x:Addr} {m m':MObj} (hf:freshIn σ a) (hx:σ x=some m):(σ.set a m') x=some m:=(set_ne (fr_ne hf hx)).trans hx
theorem fr_sub {a:Addr} {m:MObj} (hf:freshIn σ a):Sub σ (σ.set a m):=fun _ _ e=>fr_at hf e
theorem ret_sub {Φ:D→Store→Prop} {a:Addr} {m:MObj} {d:D} (hf:freshIn σ a) (h:Φ d σ):retS Φ (.ret d (σ.set a m)):=⟨d,σ,⟨fr_sub hf,.inl rfl⟩,h⟩
end
noncomputable def selF (c j:Int):Option Int→Option Int
  | none=>none
  | some x=>if j=c then some x else none
theorem sel_ok {S:Nat→Spec} {ρ:PEnv} {σ:Store} {e elt:PE} {j c:Int} {x:Option Int} {K:Option D→Store→Prop} (h0:x=none→ev ρ e=some (.bool (decide (j=c)&&false))) (h1:∀ y,x=some y→ev ρ e=some (.bool (decide (j=c)&&true))∧ev ρ elt=some (.int y)) (hK:K ((selF c j x).map .int) σ) :
    ifsT (vcL S noX [e]) ρ σ fun b σ''=>(b=true→(vc S noX elt).v ρ σ'' fun r σ₃=>K (some r) σ₃)∧(b=false→K none σ''):=by
  cases x with
  | none=>exact tE (h0 rfl) (kF (Bool.and_false _) (kF rfl hK))
  | some y=>
    refine tE (h1 y rfl).1 ?_
    by_cases q:j=c
    · have z:K (some (.int y)) σ:=by rw [selF,if_pos q] at hK; exact hK
      exact kT (by rw [decide_eq_true q]; rfl) (kT rfl (vE (h1 y rfl).2 z))
    · have z:K none σ:=by rw [selF,if_neg q] at hK; exact hK
      exact kF (by rw [decide_eq_false q]; rfl) (kF rfl z)
theorem len_step {α β:Type} {M:List α} {x:α} {c:β} {l:List β} {n:Nat} (h:M.length+(c::l).length≤n):(M++[x]).length+l.length≤n:=by
  rw [List.length_cons] at h
  rw [List.length_append,List.length_singleton]; omega
noncomputable def trO:Option Tri→D
  | none => .none
  | some t=>triD t
section
variable {k:Nat} {σ:Store} {Φ:D→Store→Prop} {X:Addr→Store→Prop} {o:O} {w:Nat} {T:Tab} {W:List Tri}
theorem merged_ok (h6:∀ t∈W,t.1<6) (hl:W.length≤1000) (h:∀ M:List Tri,Φ (.list (M.map triD)) σ):SS (k+1) 12 [.list (W.map triD)] σ Φ X:=by
  refine ⟨rfl,(?_:vcSs _ _ p_merged [some (.list (W.map triD)),none,none,none,none,none,none,none] _ _)⟩
  refine s_assign (v_mlist (a_nil ⟨rfl,fun a ha=>s_loop (i_of (v_sset (v_comp0 (l:=W) (g:=triD) (f:=fun t => .int t.1) (i_var rfl rfl) trivial hl (fun t _ K hK=>vE rfl hK) ⟨W.map (·.1),by rw [List.map_map]; rfl,rfl,fun c hc=>?_,_,rfl,for_st (fun l ρ σ'=>∃ (M:List Tri) (x y z:Option D),M.length+l.length≤6∧σ'=σ.set a (.mlist (M.map triD))∧ρ=[some (.list (W.map triD)),some (.obj a),x,y,z,none,none,none]) (fun _ _ _ _=>trivial) ?_ ?_ _ ⟨[],none,none,none,?_,rfl,rfl⟩⟩)))⟩))
  · obtain ⟨t,ht,rfl⟩:=List.mem_map.mp hc
    exact h6 t ht
  · rintro c l ρ σ' ⟨M,x,y,z,hM,rfl,rfl⟩ Ψ hn _
    refine s_assign (v_compF (l:=W) (g:=triD) (f:=fun t=>(selF c t.1 t.2.1).map .int) (i_var rfl rfl) trivial hl (fun t _ K hK=>sel_ok (c:=c) (j:=t.1) (x:=t.2.1) ?_ ?_ hK) ?_)
    · obtain ⟨j,lo,hi⟩:=t; rintro rfl; rfl
    · obtain ⟨j,lo,hi⟩:=t; rintro y rfl; exact ⟨rfl,rfl⟩
    refine s_assign (v_compF (l:=W) (g:=triD) (f:=fun t=>(selF c t.1 t.2.2).map .int) (i_var rfl rfl) trivial hl (fun t _ K hK=>sel_ok (c:=c) (j:=t.1) (x:=t.2.2) ?_ ?_ hK) ?_)
    · obtain ⟨j,lo,hi⟩:=t; rintro rfl; rfl
    · obtain ⟨j,lo,hi⟩:=t; rintro y rfl; exact ⟨rfl,rfl⟩
    refine s_expr (v_app rfl (set_at _ _ _) (v_tup (a_var rfl (a_cons (v_mmd (v_var rfl ⟨_,congrArg some (filterMap_int _ _),rfl,a_cons (v_mmd (v_var rfl ⟨_,congrArg some (filterMap_int _ _),rfl,a_nil ⟨rfl,_,set_at _ _ _,?_,?_⟩⟩))⟩))))))
    · rw [List.length_map]; exact small_ok (by omega)
    · rw [set_set]
      exact hn _ _ ⟨M++[(c,_,_)],_,_,_,len_step hM,by rw [List.map_append]; rfl,rfl⟩
  · rintro ρ σ' ⟨M,x,y,z,hM,rfl,rfl⟩
    exact s_ret (v_var rfl (retS_frz ha (h M)))
  · exact (Nat.zero_add _).symm▸List.length_filter_le _ _
theorem ne_any {Ψ:D→Store→Prop} {x:Int} {y:Option Int} (h:∀ b,Ψ (.bool b) σ):cmpS .NotEq (.int x) (dOpt y) σ Ψ:=by
  cases y with
  | none=>exact ⟨_,_,rfl,rfl,rfl,rfl,h _⟩
  | some y=>exact h _
theorem bounds_ok (ha:σ o.a=some (.inst 218 o.dx (fsK (dN o.cols) o.e))) (hc:o.cols.length≤100) (h6:∀ t∈W,t.1<6) (hl:W.length≤1000)
    (h:∀ a,freshIn σ a→∀ (P:List Int) (r:Option Tri),P.length≤100→Φ (.tuple [.obj a,trO r]) (σ.set a (.mlist (P.map .int)))):SS (k+2) 14 [.obj o.a,.list (W.map triD)] σ Φ X:=by
  refine ⟨rfl,(?_:vcSs _ _ p_Kept_bounds [some (.obj o.a),some (.list (W.map triD)),none,none,none,none] _ _)⟩
  refine s_assign (v_call (aE rfl (merged_ok h6 hl fun M=>s_assign (v_mlist (a_nil ⟨rfl,fun a hf=>s_loop (i_attr rfl (fr_at hf ha) (col_f _ _) rfl (for_st (fun l ρ σ'=>∃ (P:List Int) (x y:Option D),P.length+l.length≤100∧σ'=σ.set a (.mlist (P.map .int))∧ρ=[some (.obj o.a),some (.list (W.map triD)),some (.list (M.map triD)),some (.obj a),x,y]) (fun _ _ _ _=>trivial) ?_ ?_ o.cols ⟨[],none,none,?_,rfl,rfl⟩))⟩)))))
  · rintro c l ρ σ' ⟨P,x,y,hP,rfl,rfl⟩ Ψ hn hr
    have hP':P.length≤100:=Nat.le_trans (Nat.le_add_right _ _) hP
    refine s_assign (v_call (aE rfl (tri_ok (s_ite (t_orc (tE rfl (kT rfl (s_ret (vE rfl (hr _ _ (retS_ret (h a hf P none hP')))))))) ) fun t=>?_)))
    have hR:=hr _ _ (retS_ret (h a hf P (some t) hP'))
    obtain ⟨j,lo,hi⟩:=t
    cases lo with
    | none=>exact s_ite (t_orc (tE rfl (kF rfl (t_orc (tE rfl (kT rfl (s_ret (vE rfl hR))))))))
    | some z=>
      refine s_ite (t_orc (tE rfl (kF rfl (t_orc (tE rfl (kF rfl (t_orc (t_cmp (vE rfl (vE rfl (ne_any fun b=>⟨fun _=>s_ret (vE rfl hR),fun _=>t_orn (s_expr (v_app rfl (set_at _ _ _) (vE rfl ⟨_,set_at _ _ _,?_,?_⟩)))⟩)))))))))))
      · rw [List.length_map]; exact small_ok (by omega)
      · rw [set_set]
        exact hn _ _ ⟨P++[z],_,_,len_step hP,by rw [List.map_append]; rfl,rfl⟩
  · rintro ρ σ' ⟨P,x,y,hP,rfl,rfl⟩
    exact s_ret (vE rfl (retS_ret (h a hf P none hP)))
  · exact (Nat.zero_add _).symm▸hc
end
theorem slice_map (P:List Int) (lo hi:Option Int):∃ P':List Int,sliceD (P.map .int) lo hi=P'.map .int∧P'.length≤P.length:=by
  refine ⟨(P.drop (lo.elim 0 (clipAt P.length))).take (hi.elim P.length (clipAt P.length) - lo.elim 0 (clipAt P.length)),?_,?_⟩
  · unfold sliceD
    rw [List.length_map,List.map_take,List.map_drop]
  · exact Nat.le_trans (List.length_take_le' _ _) (by rw [List.length_drop]; exact Nat.sub_le _ _)
section
variable {k:Nat} {σ:Store} {Φ:D→Store→Prop} {X:Addr→Store→Prop} {o:O} {w:Nat} {T:Tab} {W:List Tri} {P:List Int} {p:Addr}
theorem eq_nil (hp:σ p=some (.mlist (P.map .int))) {Ψ:D→Store→Prop} (h:∀ t:Bool,(t=true ↔ P=[])→Ψ (.bool t) σ):cmpS .Eq (.obj p) (.list []) σ Ψ:=by
  obtain ⟨x,e,c⟩:=pl_shaped (pl_ints P:pl 20 (dI P))
  obtain ⟨y,e',c'⟩:=pl_shaped (pl_ints []:pl 20 (dI []))
  refine ⟨x,y,?_,e',c,c',h _ ((pl_eqv 20 20 (dI P) (dI []) x y (pl_ints P) (pl_ints []) e e').trans ⟨fun q=>?_,fun q=>by rw [q]⟩)⟩
  · show (match σ p with | some (.mlist xs)=>_ | _=>_)=_
    rw [hp]; exact e
  · cases P with
    | nil=>rfl
    | cons a r=>cases q
theorem add_o1 {Ψ:D→Store→Prop} {a:Addr} {xs:List D} {y:D} (ha:σ a=some (.mlist xs)) (hl:xs.length+1≤2000) (h:Ψ (.list (xs++[y])) σ):binS .Add (.obj a) (.list [y]) σ Ψ:=add_ol (ys:=[y]) ha hl h
theorem behind_ok (ha:σ o.a=some (.inst 218 o.dx (fsK (dN o.cols) o.e))) (he:σ o.e=some (.mlist (o.E.map dI))) (K:KO w T o) (hT:T.length≤200) (hp:σ p=some (.mlist (P.map .int))) (hP:P.length≤100)
    (h:∀ m:Nat,m≤o.E.length→Φ (.int m) σ):SS (k+3) 15 [.obj o.a,.obj p] σ Φ X:=by
  refine ⟨rfl,(?_:vcSs _ _ p_Kept_behind [some (.obj o.a),some (.obj p)] _ _)⟩
  have hl:o.E.length≤200:=K.len▸hT
  refine s_ite (t_cmp (v_var rfl (vE rfl (eq_nil hp fun t ht=>cnd (fun q=>?_) fun q=>?_))))
  · refine s_ret (v_bi (a_cons (v_attr rfl ha (ent_f _ _) (a_nil (len_at (asL_ent he) (lsE hl) (retS_ret ?_))))))
    rw [List.length_map]; exact h _ (Nat.le_refl _)
  · have hne:P≠[]:=fun e=>by rw [ht.mpr e] at q; cases q
    obtain ⟨P',eP,lP⟩:=slice_map P none (some (-1))
    have hg:(P.map D.int).getLast?=some (.int (P.getLast hne)):=by rw [List.getLast?_map,List.getLast?_eq_some_getLast hne]; rfl
    have hP1:P.length≤1000:=Nat.le_trans hP (by decide)
    refine s_ret (v_call (a_cons (v_attr rfl ha (ent_f _ _) (a_cons (v_bin (v_slc1 (v_var rfl (vE rfl ⟨_,none,some (-1),asL_ent hp,rfl,rfl,lsm hP1,?_⟩))))))))
    show (vc _ _ (.list false [_] _)).v _ _ _
    refine v_list (a_cons (v_bin (v_sub (v_var rfl (vE rfl (subS_last (asL_ent hp) (lsm hP1) hg (vE rfl (ar_ok rfl (a_nil ⟨rfl,?_⟩)))))))))
    rw [eP]
    refine add_list ?_ (a_nil (below_ok (key:=P'++[P.getLast hne+1]) (asL_ent he) (by rw [List.map_append]; rfl) (Nat.le_trans hl (by decide)) ?_ K.rl fun m c=>retS_ret (h m c.le)))
    · rw [List.length_map]; exact Nat.le_trans (Nat.add_le_add_right (Nat.le_trans lP hP) 1) (by decide)
    · rw [List.length_append]; exact Nat.le_trans (Nat.add_le_add_right (Nat.le_trans lP hP) 1) (by decide)
theorem last_mem {E:List (List Int)} {cols:List Nat} (h:E.Perm (T.map (entF cols))) {i:Nat} (hi:i<E.length):∃ e:List Int,E[i]?=some e∧∃ x∈T,e=entF cols x:=by
  obtain ⟨x,hx,e⟩:=List.mem_map.mp (h.mem_iff.mp (List.getElem_mem hi))
  exact ⟨_,List.getElem?_eq_getElem hi,x,hx,e.symm⟩
theorem ent_last (cols:List Nat) (x:Int×List Int):(entF cols x).getLast?=some x.1:=by unfold entF; rw [List.getLast?_concat]
theorem stretch_ok (ha:σ o.a=some (.inst 218 o.dx (fsK (dN o.cols) o.e))) (he:σ o.e=some (.mlist (o.E.map dI))) (K:KO w T o) (hT:T.length≤200) (h6:∀ t∈W,t.1<6) (hW:W.length≤1000)
    (h:∀ ns:List Int,(∀ n∈ns,n∈T.map (·.1))→ns.length≤T.length→Φ (dI ns) σ):SS (k+4) 43 [.obj o.a,.list (W.map triD)] σ Φ X:=by
  refine ⟨rfl,(?_:vcSs _ _ p_Kept_stretch [some (.obj o.a),some (.list (W.map triD)),none,none,none,none,none,none] _ _)⟩
  have hl:o.E.length≤200:=K.len▸hT
  have hl':o.E.length≤1000:=Nat.le_trans hl (by decide)
  refine s_assign (v_meth rfl ha (noK _ _ rfl) (aE rfl (bounds_ok ha K.cl h6 hW fun p hf P r hP=>?_)))
  have ha':=fr_at (m' := .mlist (P.map .int)) hf ha
  have he':=fr_at (m' := .mlist (P.map .int)) hf he
  have hp:=set_at σ p (.mlist (P.map .int))
  have hP1:P.length≤1000:=Nat.le_trans hP (by decide)
  have hPy:∀ y:Int,(P++[y]).length≤1000:=fun y=>by rw [List.length_append]; exact Nat.le_trans (Nat.add_le_add_right hP 1) (by decide)
  have hPl:(P.map D.int).length+1≤2000:=by rw [List.length_map]; exact Nat.le_trans (Nat.add_le_add_right hP 1) (by decide)
  refine s_assign (vE rfl (s_assign (vE rfl (s_assign (v_call (a_cons (v_attr rfl ha' (ent_f _ _) (a_var rfl (a_nil (below_ok (asL_ent he') (asL_ent hp) hl' hP1 K.rl fun m c=>s_assign (v_meth rfl ha' (noK _ _ rfl) (aE rfl (behind_ok ha' he' K hT hp hP fun n hn=>?_)))))))))))))
  have hm:=c.le
  clear c
  have f3:∀ (x:D) (a b:Nat),a≤o.E.length→b≤o.E.length→vcSs (SS (k+3)) ⟨retX X,none⟩ (p_Kept_stretch.drop 7) [some (.obj o.a),some (.list (W.map triD)),some x,some (.obj p),some (trO r),some (.int a),some (.int b),none] (σ.set p (.mlist (P.map .int))) (retS Φ):=fun x a b ha1 hb1=>by
    refine s_ret (v_comp0 (l:=List.range ((b:Int) - a).toNat) (g:=fun (i:Nat)=>D.int ((a:Int)+i)) (f:=fun i=>D.int ((o.E.getD (a+i) []).getLast?.getD 0)) (d := .none) (i_rng2 rfl rfl (Nat.le_trans ha1 hl) (Nat.le_trans hb1 hl)) trivial (by rw [List.length_range]; omega) (fun i hi K' hK=>?_) (ret_sub hf ?_))
    · have hi':a+i<o.E.length:=by have:=List.mem_range.mp hi; omega
      obtain ⟨e,ge,x,hx,rfl⟩:=last_mem K.p hi'
      refine v_sub (v_sub (v_attr rfl ha' (ent_f _ _) (v_var rfl (subS_at (k:=a+i) (asL_ent he') (lsE hl) (by rw [List.getElem?_map,ge]; rfl) (vE rfl (subS_last rfl (lsm (ent_l (o:=o) K.cl)) ?_ hK))))))
      rw [List.getD_eq_getElem?_getD,ge,Option.getD_some,List.getLast?_map,ent_last]; rfl
    · have z:=h ((List.range ((b:Int) - a).toNat).map fun i=>(o.E.getD (a+i) []).getLast?.getD 0) (fun v hv=>?_) ?_
      · have z':Φ (.list _) σ:=z
        rw [List.map_map] at z'; exact z'
      · obtain ⟨i,hi,rfl⟩:=List.mem_map.mp hv
        obtain ⟨e,ge,x,hx,rfl⟩:=last_mem K.p (i:=a+i) (by have:=List.mem_range.mp hi; omega)
        rw [List.getD_eq_getElem?_getD,ge,Option.getD_some,ent_last]
        exact List.mem_map_of_mem hx
      · rw [List.length_map,List.length_range,← K.len]; omega
  have f2:∀ (x:D) (a b:Nat),a≤o.E.length→b≤o.E.length→vcSs (SS (k+3)) ⟨retX X,none⟩ (p_Kept_stretch.drop 6) [some (.obj o.a),some (.list (W.map triD)),some x,some (.obj p),some (trO r),some (.int a),some (.int b),none] (σ.set p (.mlist (P.map .int))) (retS Φ):=fun x a b ha1 hb1=>by
    cases r with
    | none=>exact s_ite (t_and (tE rfl (kF' rfl (f3 x a b ha1 hb1))))
    | some t=>
      obtain ⟨j,lo,hi⟩:=t
      cases hi with
      | none=>exact s_ite (t_and (tE rfl (kT' rfl (tE rfl (kF' rfl (f3 x a b ha1 hb1))))))
      | some y=>
        refine s_ite (t_and (tE rfl (kT' rfl (tE rfl (kT' rfl (s_assign (v_call (a_cons (v_attr rfl ha' (ent_f _ _) (a_cons (v_bin (v_var rfl (vE rfl (add_o1 hp hPl (a_nil ?_)))))))))))))))
        exact below_ok (key:=P++[y+1]) (asL_ent he') (by rw [List.map_append]; rfl) hl' (hPy _) K.rl fun m c=>f3 x a m ha1 c.le
  cases r with
  | none=>exact s_ite (t_and (tE rfl (kF' rfl (f2 _ m n hm hn))))
  | some t=>
    obtain ⟨j,lo,hi⟩:=t
    cases lo with
    | none=>exact s_ite (t_and (tE rfl (kT' rfl (tE rfl (kF' rfl (f2 _ m n hm hn))))))
    | some y=>
      refine s_ite (t_and (tE rfl (kT' rfl (tE rfl (kT' rfl (s_assign (v_call (a_cons (v_attr rfl ha' (ent_f _ _) (a_cons (v_bin (v_var rfl (vE rfl (add_o1 hp hPl (a_nil ?_)))))))))))))))
      exact below_ok (key:=P++[y]) (asL_ent he') (by rw [List.map_append]; rfl) hl' (hPy _) K.rl fun m c=>f2 _ m n c.le hn
end
section
variable {S:Nat→Spec} {X:Exs} {ρ:PEnv} {σ:Store} {Φ:Res→Prop} {Ψ:D→Store→Prop} {Θ:Bool→Store→Prop} {r:List PS} {p xp ap gp ip:Pos}
theorem v_andc {e f:PE} {es:List PE} {b:Bool} (h:∀ {Ψ:D→Store→Prop},Ψ (.bool b) σ→(vc S X e).v ρ σ Ψ) (h0:b=false→Ψ (.bool false) σ) (h1:b=true→(vc S X (.bop .And (f::es) p)).v ρ σ Ψ):(vc S X (.bop .And (e::f::es) p)).v ρ σ Ψ:=
  h (Ψ:=fun d σ'=>truthS d σ' fun b σ''=>(b=false→Ψ d σ'')∧(b=true→bopV .And (vcL S X (f::es)) ρ σ'' Ψ)) ⟨fun q=>by rw [q]; exact h0 q,h1⟩
theorem v_orc {e f:PE} {es:List PE} {b:Bool} (h:∀ {Ψ:D→Store→Prop},Ψ (.bool b) σ→(vc S X e).v ρ σ Ψ) (h0:b=true→Ψ (.bool true) σ) (h1:b=false→(vc S X (.bop .Or (f::es) p)).v ρ σ Ψ):(vc S X (.bop .Or (e::f::es) p)).v ρ σ Ψ:=
  h (Ψ:=fun d σ'=>truthS d σ' fun b σ''=>(b=true→Ψ d σ'')∧(b=false→bopV .Or (vcL S X (f::es)) ρ σ'' Ψ)) ⟨fun q=>by rw [q]; exact h0 q,h1⟩
theorem v_bop1 {op:BoolOp} {e:PE} (h:(vc S X e).v ρ σ Ψ):(vc S X (.bop op [e] p)).v ρ σ Ψ:=h
theorem v_cmp2 {o₁ o₂:CmpOp} {a b c:PE} (h:(vc S X a).v ρ σ fun x σ₁=>(vc S X b).v ρ σ₁ fun y σ₂=>cmpS o₁ x y σ₂ fun d σ₃=>
      truthS d σ₃ fun t σ₄=>(t=false→Ψ (.bool false) σ₄)∧(t=true→(vc S X c).v ρ σ₄ fun z σ₅=>cmpS o₂ y z σ₅ Ψ)):(vc S X (.cmp2 o₁ o₂ a b c p)).v ρ σ Ψ:=h
theorem v_methG {C g:Nat} {n:Str} {o:PE} {es:List PE} (h:(vc S X o).v ρ σ fun d σ₁=>instS C n d σ₁∧argsV (vcL S X es) ρ σ₁ fun ds σ₂=>S g (d::ds) σ₂ Ψ X.x):(vc S X (.meth C g o n ap es p)).v ρ σ Ψ:=h
theorem t_meth {C g i:Nat} {n:Str} {a dx:Addr} {fs:List (Str×D)} {es:List PE} (hi:ρ.at i=some (.obj a)) (ha:σ a=some (.inst C dx fs)) (hf:getF n fs=none) (h:argsV (vcL S X es) ρ σ fun ds σ₂=>S g (.obj a::ds) σ₂ (fun d σ'=>truthS d σ' Θ) X.x):(vc S X (.meth C g (.var i ip) n ap es p)).t ρ σ Θ:=
  v_meth (p:=p) (ap:=ap) (Ψ:=fun d σ'=>truthS d σ' Θ) hi ha hf h
end
theorem noT {n:Str} (w:Nat) (d k:Addr) (f:Int) (h:(decide (("width" : Str)=n) || (decide (("there" : Str)=n) || (decide (("kept" : Str)=n) || decide (("following" : Str)=n))))=false):getF n (fsT w d k f)=none:=by
  have h:=Bool.or_eq_false_iff.mp h
  have h2:=Bool.or_eq_false_iff.mp h.2
  have h3:=Bool.or_eq_false_iff.mp h2.2
  exact (if_neg (of_decide_eq_false h.1)).trans ((if_neg (of_decide_eq_false h2.1)).trans ((if_neg (of_decide_eq_false h3.1)).trans (if_neg (of_decide_eq_false h3.2))))
theorem wid_f (w:Nat) (d k:Addr) (f:Int):getF "width" (fsT w d k f)=some (.int w):=if_pos rfl
theorem the_f (w:Nat) (d k:Addr) (f:Int):getF "there" (fsT w d k f)=some (.obj d):=(if_neg (by decide)).trans (if_pos rfl)
theorem kep_f (w:Nat) (d k:Addr) (f:Int):getF "kept" (fsT w d k f)=some (.obj k):=(if_neg (by decide)).trans ((if_neg (by decide)).trans (if_pos rfl))
theorem fol_f (w:Nat) (d k:Addr) (f:Int):getF "following" (fsT w d k f)=some (.int f):=(if_neg (by decide)).trans ((if_neg (by decide)).trans ((if_neg (by decide)).trans (if_pos rfl)))
noncomputable def nob:D→Bool
  | .obj _=>false
  | _=>true
noncomputable def isEnd:D→Bool
  | .none=>true
  | d=>whole d
noncomputable def isTri (w:Nat):D→Bool
  | .tuple xs=>Nat.beq xs.length 3&&(hasCol w (xs.getD 0 .none)&&(isEnd (xs.getD 1 .none)&&isEnd (xs.getD 2 .none)))
  | _=>false
noncomputable def nobs:D→Bool
  | .tuple xs=>Nat.ble xs.length 100&&xs.all nob
  | .list xs=>Nat.ble xs.length 100&&xs.all nob
  | .obj _=>false
  | _=>true
section
variable {k:Nat} {σ:Store} {Φ:D→Store→Prop} {X:Addr→Store→Prop} {o:O} {w:Nat} {T:Tab} {W:List Tri} {q:Q} {d:D}
theorem whole_ok (hd:nob d=true) (h:Φ (.bool (whole d)) σ):SS (k+1) 16 [d] σ Φ X:=by
  refine ⟨rfl,(?_:vcSs _ _ p_is_whole [some d] _ _)⟩
  have z:∀ t b:Bool,tyS .int d σ=some t→tyS .bool d σ=some b→(t&&!b)=whole d→vcSs (SS k) ⟨retX X,none⟩ p_is_whole [some d] σ (retS Φ):=fun t b h1 h2 e=>by
    refine s_ret (v_andc (b:=t) (fun q=>v_isi (v_var rfl ⟨t,h1,q⟩)) (fun q=>?_) fun q=>v_bop1 (v_not (v_isi (v_var rfl ⟨b,h2,?_⟩))))
    · subst q; rw [← e] at h; exact retS_ret h
    · subst q; rw [← e] at h; exact retS_ret h
  cases d with
  | obj a=>cases hd
  | _=>exact z _ _ rfl rfl rfl
theorem has_ok (ts:TS σ q) (hd:nob d=true) (h:Φ (.bool (hasCol q.w d)) σ):SS (k+2) 21 [.obj q.t,d] σ Φ X:=by
  refine ⟨rfl,(?_:vcSs _ _ p_Table_has_column [some (.obj q.t),some d] _ _)⟩
  refine s_ret (v_andc (b:=whole d) (fun h=>v_call (aE rfl (whole_ok hd h))) (fun e=>?_) fun e=>?_)
  · cases d with
    | int i=>cases e
    | _=>exact retS_ret h
  · cases d with
    | int i=>exact v_bop1 (v_cmp2 (vE rfl (vE rfl ⟨fun e=>(by rw [hasCol,e] at h; exact retS_ret h),fun e=>v_attr rfl ts.tb (wid_f _ _ _ _) (by rw [hasCol,e] at h; exact retS_ret h)⟩)))
    | _=>cases e
theorem end_ok (hd:nob d=true) (h:Φ (.bool (isEnd d)) σ):SS (k+2) 22 [d] σ Φ X:=by
  refine ⟨rfl,(?_:vcSs _ _ p_is_end [some d] _ _)⟩
  cases d with
  | obj a=>cases hd
  | none=>exact s_ret (v_orc (b:=true) (fun h=>vE rfl h) (fun _=>retS_ret h) nofun)
  | _=>exact s_ret (v_orc (b:=false) (fun h=>vE rfl h) nofun fun _=>v_bop1 (v_call (aE rfl (whole_ok rfl (retS_ret h)))))
theorem three:∀ {xs:List D},xs.length=3→∃ a b c,xs=[a,b,c]
  | [a,b,c],_=>⟨a,b,c,rfl⟩
theorem istri_ok (ts:TS σ q) (hd:nobs d=true) (h:Φ (.bool (isTri q.w d)) σ):SS (k+3) 26 [.obj q.t,d] σ Φ X:=by
  refine ⟨rfl,(?_:vcSs _ _ p_Table_is_triple [some (.obj q.t),some d] _ _)⟩
  have z:tyS .tuple d σ=some false→isTri q.w d=false→vcSs (SS (k+2)) ⟨retX X,none⟩ p_Table_is_triple [some (.obj q.t),some d] σ (retS Φ):=fun h1 e=>by
    rw [e] at h
    exact s_ite (t_orc (t_not (t_isi (v_var rfl ⟨false,h1,kT rfl (s_ret (vE rfl (retS_ret h)))⟩))))
  cases d with
  | obj a=>cases hd
  | tuple xs=>
    have hd:=Bool.and_eq_true_iff.mp hd
    have hl:=Nat.le_of_ble_eq_true hd.1
    refine s_ite (t_orc (t_not (t_isi (v_var rfl ⟨true,rfl,kF rfl (t_orc (t_cmp (v_len rfl rfl (small_ok (Nat.le_trans hl (by decide))) (vE rfl (⟨fun e=>s_ret (vE rfl (retS_ret ?_)),fun e=>t_orn ?_⟩)))))⟩))))
    · have e:Nat.beq xs.length 3=false:=Bool.eq_false_iff.mpr fun z=>of_decide_eq_false (p:=(xs.length:Int)=3) (Bool.not_eq_true' _ |>.mp e) (congrArg Int.ofNat (Nat.eq_of_beq_eq_true z))
      have i:isTri q.w (.tuple xs)=false:=by show (_&&_)=false; rw [e]; rfl
      rw [i] at h; exact h
    · have e:xs.length=3:=Int.ofNat_inj.mp (of_decide_eq_true (p:=(xs.length:Int)=3) (Bool.not_eq_false' .. |>.mp e))
      obtain ⟨a,b,c,rfl⟩:=three e
      have hn:=List.all_eq_true.mp hd.2
      have h:Φ (.bool (hasCol q.w a&&(isEnd b&&isEnd c))) σ:=h
      refine s_ret (v_andc (b:=hasCol q.w a) (fun h=>v_meth rfl ts.tb (noT _ _ _ _ rfl) (aE rfl (has_ok ts (hn a List.mem_cons_self) h))) (fun e=>?_) fun e=>v_andc (b:=isEnd b) (fun h=>v_call (aE rfl (end_ok (hn b (List.mem_cons_of_mem _ List.mem_cons_self)) h))) (fun e'=>?_) fun e'=>v_bop1 (v_call (aE rfl (end_ok (hn c (List.mem_cons_of_mem _ (List.mem_cons_of_mem _ List.mem_cons_self))) (retS_ret ?_)))))
      · rw [e] at h; exact retS_ret h
      · rw [e,e'] at h; exact retS_ret h
      · rw [e,e'] at h; exact h
  | _=>exact z rfl rfl
end
set_option tactic.hygienic true in
theorem for_id {step:D→PEnv→Store→(Res→Prop)→Prop} {keep:Store→Prop} {Φ:Res→Prop} (P:List D→PEnv→Store→Prop) (hk:∀ l ρ σ,P l ρ σ→keep σ)
    (hs:∀ y l ρ σ,P (y::l) ρ σ→∀ Ψ:Res→Prop,(∀ ρ' σ',P l ρ' σ'→Ψ (.next ρ' σ'))→(∀ d σ',Φ (.ret d σ')→Ψ (.ret d σ'))→step y ρ σ Ψ) (he:∀ ρ σ,P [] ρ σ→Φ (.next ρ σ)) (l:List D) {ρ:PEnv} {σ:Store} (h:P l ρ σ):forS step keep l ρ σ Φ:=by
  have z:=for_st (g:=fun x=>x) P hk hs he l h
  rw [List.map_id'] at z; exact z
theorem tri_tri {w:Nat} {t:Tri} (h:t.1<w):isTri w (triD t)=true:=by
  obtain ⟨c,lo,hi⟩:=t
  have:hasCol w (.int (c:Nat))=true:=by
    show (decide ((0:Int)≤c)&&decide ((c:Int)<w))=true
    rw [decide_eq_true (Int.natCast_nonneg c),decide_eq_true (Int.ofNat_lt.mpr h)]; rfl
  show (hasCol w (.int (c:Nat))&&(isEnd (dOpt lo)&&isEnd (dOpt hi)))=true
  rw [this]
  cases lo <;> cases hi <;> rfl
theorem tri_nobs (t:Tri):nobs (triD t)=true:=by
  obtain ⟨c,lo,hi⟩:=t
  cases lo <;> cases hi <;> rfl
theorem has_nat {w:Nat} {d:D} (h:hasCol w d=true):d = .int (natOf d:Nat)∧natOf d<w:=by
  cases d with
  | int i=>
    have h:=Bool.and_eq_true_iff.mp h
    have h1:=of_decide_eq_true h.1
    have h2:=of_decide_eq_true h.2
    have e:((natOf (.int i):Nat):Int)=i:=Int.toNat_of_nonneg h1
    exact ⟨by rw [e],Int.ofNat_lt.mp (by rw [e]; exact h2)⟩
  | _=>cases h
theorem ord_nats {w:Nat} {ds:List D} (h:ds.all (hasCol w)=true):ds=(ds.map natOf).map (fun (k:Nat)=>D.int k)∧∀ c∈ds.map natOf,c<w:=by
  have h:=List.all_eq_true.mp h
  refine ⟨?_,fun c hc=>?_⟩
  · rw [List.map_map]
    exact (List.map_id _).symm.trans (List.map_congr_left fun x hx=>(has_nat (h x hx)).1)
  · obtain ⟨x,hx,rfl⟩:=List.mem_map.mp hc
    exact (has_nat (h x hx)).2
noncomputable def natsOf:D→List Nat
  | .tuple ds=>ds.map natOf
  | _=>[]
theorem ord_dN {w:Nat} {d:D} (h:isOrd w d=true):d=dN (natsOf d)∧∀ c∈natsOf d,c<w:=by
  cases d with
  | tuple ds=>
    have h:=Bool.and_eq_true_iff.mp (Bool.and_eq_true_iff.mp h).2
    exact ⟨congrArg D.tuple (ord_nats h.1).1,(ord_nats h.1).2⟩
  | _=>cases h
theorem pl_dN (a:List Nat) (n:Nat):pl (n+1) (dN a):=by
  intro x hx
  obtain ⟨i,_,rfl⟩:=List.mem_map.mp hx
  cases n <;> exact trivial
theorem dN_inj:∀ {a b:List Nat},dN a=dN b→a=b:=by
  intro a b h
  have h:a.map (fun (k:Nat)=>D.int k)=b.map (fun (k:Nat)=>D.int k):=D.tuple.inj h
  have:=congrArg (List.map natOf) h
  rw [List.map_map,List.map_map] at this
  exact (List.map_id a).symm.trans (this.trans (List.map_id b))
theorem v_lset {S:Nat→Spec} {X:Exs} {ρ:PEnv} {σ:Store} {Ψ:D→Store→Prop} {i g g':Nat} {d:D} {ip gp gp' p' p:Pos} (hi:ρ.at i=some d) (h:lsetS d σ Ψ):(vc S X (.lset (.var i ip) g gp g' gp' p' p)).v ρ σ Ψ:=
  v_var (S:=S) (X:=X) (p:=ip) (Ψ:=fun d σ'=>lsetS d σ' Ψ) hi h
noncomputable def BadW (σ:Store) (w:Nat) (d:D):Prop:=tyS .list d σ=some false∨∃ ds,d = .list ds∧ds.length≤1000∧(20<ds.length∨((∀ x∈ds,nobs x=true)∧∃ x∈ds,isTri w x=false))
noncomputable def keptO (q:Q) (d:D):Option O:=bif isOrd q.w d then q.os.find? (fun o=>decide (o.cols=natsOf d)) else none
noncomputable def rowO (T:Tab):D→Option (Int×List Int)
  | .int n=>T.find? fun x=>decide (x.1=n)
  | _=>none
theorem getK_find (n:Int):∀ T:Tab,getK n (T.map tupI)=(T.find? fun x=>decide (x.1=n)).map fun x=>tI x.2
  | []=>rfl
  | x::T=>by
    show (if x.1=n then _ else _)=_
    by_cases e:x.1=n
    · rw [if_pos e,List.find?_cons_of_pos (by rw [decide_eq_true e])]; rfl
    · rw [if_neg e,List.find?_cons_of_neg (by rw [decide_eq_false e]; exact Bool.false_ne_true),getK_find n T]
section
variable {k:Nat} {σ:Store} {Φ:D→Store→Prop} {X:Addr→Store→Prop} {o:O} {w:Nat} {T:Tab} {W:List Tri} {q:Q} {d:D}
theorem eqN {a b:List Nat} {Ψ:D→Store→Prop} (h:∀ t:Bool,(t=true ↔ a=b)→Ψ (.bool t) σ):cmpS .Eq (dN a) (dN b) σ Ψ:=
  eqS (pl_dN a 19) (pl_dN b 19) fun t ht=>h t (ht.trans ⟨dN_inj,congrArg dN⟩)
theorem neN {a b:List Nat} {Ψ:D→Store→Prop} (h:∀ t:Bool,(t=true ↔ a=b)→Ψ (.bool (!t)) σ):cmpS .NotEq (dN a) (dN b) σ Ψ:=
  neS (pl_dN a 19) (pl_dN b 19) fun t ht=>h t (ht.trans ⟨dN_inj,congrArg dN⟩)
theorem nw_ok (ts:TS σ q) (hc:∀ t∈W,t.1<q.w) (hW:W.length≤20) (h:Φ .none σ):SS (k+4) 45 [.obj q.t,.list (W.map triD)] σ Φ X:=by
  refine ⟨rfl,(?_:vcSs _ _ p_Table_need_wish [some (.obj q.t),some (.list (W.map triD)),none] _ _)⟩
  refine s_ite (t_orc (t_not (t_isi (v_var rfl ⟨true,rfl,kF rfl (t_orc (t_cmp (v_len rfl rfl (lsm (Nat.le_trans hW (by decide))) (vE rfl (kF (decide_eq_false ?_) (t_orn ?_))))))⟩))))
  · rw [List.length_map]; omega
  refine s_loop (i_var rfl rfl (for_st (fun l ρ σ'=>∃ x,(∀ t∈l,t.1<q.w)∧σ'=σ∧ρ=[some (.obj q.t),some (.list (W.map triD)),x]) (fun _ _ _ _=>trivial) ?_ ?_ W ⟨none,hc,rfl,rfl⟩))
  · rintro t l ρ σ' ⟨x,hl,rfl,rfl⟩ Ψ hn hr
    obtain ⟨ht,hl⟩:=List.forall_mem_cons.mp hl
    refine s_ite (t_not (t_meth rfl ts.tb (noT _ _ _ _ rfl) (aE rfl (istri_ok ts (tri_nobs t) ?_))))
    rw [tri_tri ht]
    exact hn _ _ ⟨_,hl,rfl,rfl⟩
  · rintro ρ σ' ⟨x,_,rfl,rfl⟩
    exact ns (ρ:=[]) h
theorem nw_bad (ts:TS σ q) (hb:BadW σ q.w d) (h:X 97 σ):SS (k+4) 45 [.obj q.t,d] σ Φ X:=by
  refine ⟨rfl,(?_:vcSs _ _ p_Table_need_wish [some (.obj q.t),some d,none] _ _)⟩
  rcases hb with hb | ⟨ds,rfl,hl,hb⟩
  · exact s_ite (t_orc (t_not (t_isi (v_var rfl ⟨false,hb,kT rfl (s_raise (xs h))⟩))))
  refine s_ite (t_orc (t_not (t_isi (v_var rfl ⟨true,rfl,kF rfl (t_orc (t_cmp (v_len rfl rfl (small_ok (Nat.le_trans hl (by decide))) (vE rfl ⟨fun _=>s_raise (xs h),fun e=>t_orn ?_⟩))))⟩))))
  rcases hb with hb | ⟨hn,hb⟩
  · have:=of_decide_eq_false e; omega
  refine s_loop (i_var rfl rfl (for_id (fun l ρ σ'=>∃ x,((∀ y∈l,nobs y=true)∧∃ y∈l,isTri q.w y=false)∧σ'=σ∧ρ=[some (.obj q.t),some (.list ds),x]) (fun _ _ _ _=>trivial) ?_ ?_ ds ⟨none,⟨hn,hb⟩,rfl,rfl⟩))
  · rintro y l ρ σ' ⟨x,⟨hn,z,hz,hz'⟩,rfl,rfl⟩ Ψ hN hr
    obtain ⟨hy,hn⟩:=List.forall_mem_cons.mp hn
    refine s_ite (t_not (t_meth rfl ts.tb (noT _ _ _ _ rfl) (aE rfl (istri_ok ts hy (cnd (fun _=>s_raise (xs h)) fun e=>?_)))))
    rcases List.mem_cons.mp hz with rfl | hz
    · rw [hz'] at e; cases e
    · exact hN _ _ ⟨_,⟨hn,z,hz,hz'⟩,rfl,rfl⟩
  · rintro ρ σ' ⟨x,⟨_,z,hz,_⟩,rfl,rfl⟩
    cases hz
theorem isord_ok (ts:TS σ q) (hw:q.w≤6) (hd:nobs d=true) (h:Φ (.bool (isOrd q.w d)) σ):SS (k+3) 27 [.obj q.t,d] σ Φ X:=by
  refine ⟨rfl,(?_:vcSs _ _ p_Table_is_order [some (.obj q.t),some d,none] _ _)⟩
  have z:tyS .tuple d σ=some false→isOrd q.w d=false→vcSs (SS (k+2)) ⟨retX X,none⟩ p_Table_is_order [some (.obj q.t),some d,none] σ (retS Φ):=fun h1 e=>by
    rw [e] at h
    exact s_ite (t_orc (t_not (t_isi (v_var rfl ⟨false,h1,kT rfl (s_ret (vE rfl (retS_ret h)))⟩))))
  cases d with
  | obj a=>cases hd
  | tuple ds=>
    have hd:=Bool.and_eq_true_iff.mp hd
    have hl:=small_ok (Nat.le_trans (Nat.le_of_ble_eq_true hd.1) (by decide))
    have hn:=List.all_eq_true.mp hd.2
    refine s_ite (t_orc (t_not (t_isi (v_var rfl ⟨true,rfl,kF rfl (t_orc (t_cmp (v_len rfl rfl hl (vE rfl ⟨fun e=>s_ret (vE rfl (retS_ret ?_)),fun e=>t_orn ?_⟩))))⟩))))
    · cases ds with
      | nil=>exact h
      | cons a r=>have:=of_decide_eq_true e; simp at this; omega
    have h:Φ (.bool (ds.all (hasCol q.w)&&decide ((keysOf (bitsOf (ds.map natOf))).length=ds.length))) σ:=by
      cases ds with
      | nil=>cases e
      | cons a r=>exact h
    refine s_loop (i_var rfl rfl (for_id (fun l ρ σ'=>∃ x,((∀ y∈l,nob y=true)∧ds.all (hasCol q.w)=l.all (hasCol q.w))∧σ'=σ∧ρ=[some (.obj q.t),some (.tuple ds),x]) (fun _ _ _ _=>trivial) ?_ ?_ ds ⟨none,⟨hn,rfl⟩,rfl,rfl⟩))
    · rintro y l ρ σ' ⟨x,⟨hn,ha⟩,rfl,rfl⟩ Ψ hN hr
      obtain ⟨hy,hn⟩:=List.forall_mem_cons.mp hn
      rw [List.all_cons] at ha
      refine s_ite (t_not (t_meth rfl ts.tb (noT _ _ _ _ rfl) (aE rfl (has_ok ts hy (cnd (fun e=>?_) fun e=>?_)))))
      · have e:hasCol q.w y=false:=by simpa using e
        rw [e] at ha
        rw [ha] at h
        exact s_ret (vE rfl (hr _ _ (retS_ret h)))
      · have e:hasCol q.w y=true:=by simpa using e
        rw [e] at ha
        exact hN _ _ ⟨_,⟨hn,ha⟩,rfl,rfl⟩
    · rintro ρ σ' ⟨x,⟨_,ha⟩,rfl,rfl⟩
      have hz:=ord_nats ha
      rw [ha] at h
      refine s_ret (v_cmp (v_lset rfl ⟨ds.map natOf,congrArg D.tuple hz.1,fun c hc=>Nat.lt_of_lt_of_le (hz.2 c hc) hw,by rw [List.length_map]; exact hl,v_len rfl rfl hl (retS_ret ?_)⟩))
      rw [decide_eq_decide.mpr (Int.ofNat_inj)]; exact h
  | _=>exact z rfl rfl
end
section
variable {k:Nat} {σ:Store} {Φ:D→Store→Prop} {X:Addr→Store→Prop} {o:O} {w:Nat} {T:Tab} {W:List Tri} {q:Q} {d:D}
theorem keptof_ok (ti:TI σ q) (hd:nobs d=true) (h1:∀ o,keptO q d=some o→o∈q.os→Φ (.obj o.a) σ) (h0:keptO q d=none→X 109 σ):SS (k+4) 41 [.obj q.t,d] σ Φ X:=by
  refine ⟨rfl,(?_:vcSs _ _ p_Table_kept_of [some (.obj q.t),some d,none] _ _)⟩
  have ts:=ti.s
  refine s_ite (t_meth rfl ts.tb (noT _ _ _ _ rfl) (aE rfl (isord_ok ts ti.tt.w6 hd (cnd (fun e=>?_) fun e=>s_raise (xs (h0 (by rw [keptO,e]; rfl)))))))
  obtain ⟨ed,_⟩:=ord_dN e
  have ek:keptO q d=q.os.find? (fun o=>decide (o.cols=natsOf d)):=by rw [keptO,e]; rfl
  rw [ek] at h1 h0
  refine s_loop (i_attr rfl ts.tb (kep_f _ _ _ _) (asL_ent ts.ke) (for_st (fun l ρ σ'=>∃ x,((∀ o∈l,o∈q.os)∧q.os.find? (fun o=>decide (o.cols=natsOf d))=l.find? fun o=>decide (o.cols=natsOf d))∧σ'=σ∧ρ=[some (.obj q.t),some d,x]) ?_ ?_ ?_ q.os ⟨none,⟨fun o h=>h,rfl⟩,rfl,rfl⟩))
  · rintro l ρ σ' ⟨x,_,rfl,rfl⟩; exact ts.ke
  · rintro o l ρ σ' ⟨x,⟨hm,hf⟩,rfl,rfl⟩ Ψ hN hr
    obtain ⟨ho,hm⟩:=List.forall_mem_cons.mp hm
    refine s_ite (t_cmp (v_attr rfl (ts.ob o ho) (col_f _ _) (v_var rfl ?_)))
    rw [ed]
    refine eqN fun t ht=>cnd (fun q=>?_) fun q=>?_
    · rw [List.find?_cons_of_pos (by rw [decide_eq_true (ht.mp q)])] at hf
      exact s_ret (vE rfl (hr _ _ (retS_ret (h1 o hf ho))))
    · rw [List.find?_cons_of_neg (by rw [decide_eq_false (fun e=>by rw [ht.mpr e] at q; cases q)]; exact Bool.false_ne_true)] at hf
      exact hN _ _ ⟨_,⟨hm,hf⟩,rfl,by rw [← ed]; rfl⟩
  · rintro ρ σ' ⟨x,⟨_,hf⟩,rfl,rfl⟩
    exact s_raise (xs (h0 hf))
theorem orders_ok (ts:TS σ q) (hl:q.os.length≤8) (h:Φ (.list (q.os.map fun o=>dN o.cols)) σ):SS (k+1) 36 [.obj q.t] σ Φ X:=by
  refine ⟨rfl,(?_:vcSs _ _ p_Table_orders [some (.obj q.t),none] _ _)⟩
  exact s_ret (v_comp0 (l:=q.os) (g:=fun o => .obj o.a) (f:=fun o=>dN o.cols) (i_attr rfl ts.tb (kep_f _ _ _ _) (asL_ent ts.ke)) ts.ke (Nat.le_trans hl (by decide)) (fun o ho K hK=>v_attr rfl (ts.ob o ho) (col_f _ _) hK) (retS_ret h))
theorem T_fst (T:Tab):(T.map tupI).map (fun x=>D.int x.1)=(T.map (·.1)).map D.int:=by rw [List.map_map,List.map_map]; rfl
theorem numbers_ok (ts:TS σ q) (tt:TT q.w q.T q.f) (h:Φ (dI (q.T.map (·.1))) σ):SS (k+1) 40 [.obj q.t] σ Φ X:=by
  refine ⟨rfl,(?_:vcSs _ _ p_Table_numbers [some (.obj q.t)] _ _)⟩
  have hp:(q.T.map (·.1)).Pairwise (·≤·):=List.pairwise_map.mpr (tt.k.imp fun h=>Int.le_of_lt h)
  refine s_ret (v_bi (a_cons (v_bi (a_cons (v_attr rfl ts.tb (the_f _ _ _ _) (a_nil ⟨q.d,_,rfl,ts.di,lsz tt.n,?_⟩))))))
  rw [T_fst]
  show biS .sorted false [.list _] σ _
  exact ⟨q.T.map (·.1),q.T.map (·.1),rfl,rfl,lsz tt.n,.inr hp,List.Perm.refl _,hp,retS_ret h⟩
where lsz {α β:Type} {f:α→β} {xs:List α} (h:xs.length≤200):(xs.map f).length≤small:=by rw [List.length_map]; exact small_ok (Nat.le_trans h (by decide))
theorem needrow_ok (ts:TS σ q) (hd:nob d=true) (h1:∀ x,rowO q.T d=some x→d = .int x.1→x∈q.T→Φ .none σ) (h0:rowO q.T d=none→X 73 σ):SS (k+2) 33 [.obj q.t,d] σ Φ X:=by
  refine ⟨rfl,(?_:vcSs _ _ p_Table_need_row [some (.obj q.t),some d] _ _)⟩
  refine s_ite (t_orc (t_not (t_call (aE rfl (whole_ok hd ?_)))))
  cases d with
  | int n=>
    refine kF rfl (t_orc (t_cmp (v_var rfl (v_attr rfl ts.tb (the_f _ _ _ _) (.inr (.inl ⟨q.d,_,rfl,ts.di,?_⟩))))))
    rw [getK_find]
    cases e:q.T.find? fun x=>decide (x.1=n) with
    | none=>exact kT rfl (s_raise (xs (h0 e)))
    | some x=>exact kF rfl (t_orn (ns (ρ:=[]) (h1 x e (congrArg D.int (of_decide_eq_true (p:=x.1=n) (List.find?_some (p:=fun x:Int×List Int=>decide (x.1=n)) e)).symm) (List.mem_of_find?_eq_some e))))
  | obj a=>cases hd
  | _=>exact kT rfl (s_raise (L08.xs (h0 rfl)))
theorem sub_there {S:Nat→Spec} {X:Exs} {ρ:PEnv} {Ψ:D→Store→Prop} {i j:Nat} {x:Int×List Int} {ip ap jp p:Pos} (ts:TS σ q) (hi:ρ.at i=some (.obj q.t)) (hj:ρ.at j=some (.int x.1)) (hx:rowO q.T (.int x.1)=some x) (h:Ψ (tI x.2) σ):(vc S X (.subd (.attr 387 (.var i ip) "there" ap) (.var j jp) p)).v ρ σ Ψ:=
  v_subd (v_attr hi ts.tb (the_f _ _ _ _) (v_var hj ⟨q.d,_,x.1,tI x.2,rfl,ts.di,rfl,by rw [getK_find]; exact congrArg (Option.map _) hx,h⟩))
theorem row_mem (tt:TT q.w q.T q.f) {x:Int×List Int} (hx:x∈q.T):rowO q.T (.int x.1)=some x:=by
  show q.T.find? (fun y=>decide (y.1=x.1))=some x
  obtain ⟨as,bs,e⟩:=List.append_of_mem hx
  have hk:=tt.k
  rw [e] at hk
  rw [e,List.find?_append,List.find?_eq_none.mpr,Option.none_or,List.find?_cons_of_pos (by simp)]
  intro y hy
  have:=(List.pairwise_append.mp hk).2.2 y hy x List.mem_cons_self
  simp; omega
theorem row_ok (ts:TS σ q) (tt:TT q.w q.T q.f) {x:Int×List Int} (hx:x∈q.T) (h:Φ (tI x.2) σ):SS (k+3) 64 [.obj q.t,.int x.1] σ Φ X:=by
  refine ⟨rfl,(?_:vcSs _ _ p_Table_row [some (.obj q.t),some (.int x.1)] _ _)⟩
  have e:=row_mem tt hx
  exact s_expr (v_meth rfl ts.tb (noT _ _ _ _ rfl) (aE rfl (needrow_ok ts rfl (fun y hy _ _=>s_ret (sub_there ts rfl rfl e (retS_ret h))) fun z=>by rw [e] at z; cases z)))
noncomputable def numsO (o:O):D:=dI (o.E.map fun e=>e.getLast?.getD 0)
theorem listed_ok (ti:TI σ q) (hd:nobs d=true) (h1:∀ o,keptO q d=some o→Φ (numsO o) σ) (h0:keptO q d=none→X 109 σ):SS (k+5) 57 [.obj q.t,d] σ Φ X:=by
  refine ⟨rfl,(?_:vcSs _ _ p_Table_listed [some (.obj q.t),some d] _ _)⟩
  exact s_ret (v_methG (v_meth rfl ti.s.tb (noT _ _ _ _ rfl) (aE rfl (keptof_ok ti hd (fun o ho hm=>⟨⟨o.a,_,_,rfl,ti.s.ob o hm,noK _ _ rfl⟩,a_nil (knum_ok (ti.s.ob o hm) (ti.s.en o hm) (ti.ok o hm) ti.tt.n (retS_ret (h1 o ho)))⟩) fun z=>xs (h0 z)))))
end
theorem ne_of {σ:Store} {x y:Addr} {m m':MObj} (hx:σ x=some m) (hy:σ y=some m') (h:m≠m'):x≠y:=fun e=>h (by rw [e,hy] at hx; exact (Option.some.inj hx).symm)
theorem TS.upd {σ:Store} {q:Q} {as bs:List O} {o:O} {E':List (List Int)} (ts:TS σ { q with os:=as++o::bs }):TS (σ.set o.e (.mlist (E'.map dI))) { q with os:=as++{ o with E:=E' }::bs }:=by
  have hm:o∈as++o::bs:=List.mem_append_right _ List.mem_cons_self
  have he:=ts.en o hm
  have ep:(as++{ o with E:=E' }::bs).map (·.e)=(as++o::bs).map (·.e):=by rw [List.map_append,List.map_append]; rfl
  have hn:=ts.pw
  have hd:∀ y,y∈as++bs→y.e≠o.e:=fun y hy e=>by
    have hn:((as++o::bs).map (·.e)).Nodup:=hn
    rw [List.map_append,List.map_cons,List.nodup_append,List.nodup_cons] at hn
    rcases List.mem_append.mp hy with hy | hy
    · exact hn.2.2 _ (List.mem_map_of_mem hy) _ List.mem_cons_self e
    · exact hn.2.1.1 (e▸List.mem_map_of_mem hy)
  have hc:∀ y,y∈as++{ o with E:=E' }::bs→y={ o with E:=E' }∨(y∈as++bs∧y∈as++o::bs):=fun y hy=>by
    rcases List.mem_append.mp hy with hy | hy
    · exact .inr ⟨List.mem_append_left _ hy,List.mem_append_left _ hy⟩
    · rcases List.mem_cons.mp hy with hy | hy
      · exact .inl hy
      · exact .inr ⟨List.mem_append_right _ hy,List.mem_append_right _ (List.mem_cons_of_mem _ hy)⟩
  refine ⟨(set_ne (ne_of ts.tb he nofun)).trans ts.tb,(set_ne (ne_of ts.di he nofun)).trans ts.di,?_,fun y hy=>?_,fun y hy=>?_,by rw [ep]; exact hn,by rw [ep]; exact ts.kn⟩
  · refine (set_ne (x:=q.k) fun e=>ts.kn (by show q.k∈_; rw [e]; exact List.mem_map_of_mem (f:=(·.e)) hm)).trans (ts.ke.trans ?_)
    show some (MObj.mlist ((as++o::bs).map _))=some (MObj.mlist ((as++{ o with E:=E' }::bs).map _))
    rw [List.map_append,List.map_append]; rfl
  · rcases hc y hy with rfl | ⟨_,hy⟩
    · exact (set_ne (ne_of (ts.ob o hm) he nofun)).trans (ts.ob o hm)
    · exact (set_ne (ne_of (ts.ob y hy) he nofun)).trans (ts.ob y hy)
  · rcases hc y hy with rfl | ⟨h1,hy⟩
    · exact set_at _ _ _
    · exact (set_ne (hd y h1)).trans (ts.en y hy)
theorem TS.dic {σ:Store} {q:Q} (ts:TS σ q) (T':Tab):TS (σ.set q.d (.mdict (T'.map tupI))) { q with T:=T' }:=
  ⟨(set_ne (ne_of ts.tb ts.di nofun)).trans ts.tb,set_at _ _ _,(set_ne (ne_of ts.ke ts.di nofun)).trans ts.ke,fun o ho=>(set_ne (ne_of (ts.ob o ho) ts.di nofun)).trans (ts.ob o ho),fun o ho=>(set_ne (ne_of (ts.en o ho) ts.di nofun)).trans (ts.en o ho),ts.pw,ts.kn⟩
theorem TS.fol {σ:Store} {q:Q} (ts:TS σ q) (hk:∀ o∈q.os,o.a≠q.t) (f':Nat):TS (σ.set q.t (.inst 387 q.dx (fsT q.w q.d q.k f'))) { q with f:=f' }:=
  ⟨set_at _ _ _,(set_ne (ne_of ts.di ts.tb nofun)).trans ts.di,(set_ne (ne_of ts.ke ts.tb nofun)).trans ts.ke,fun o ho=>(set_ne (hk o ho)).trans (ts.ob o ho),fun o ho=>(set_ne (ne_of (ts.en o ho) ts.tb nofun)).trans (ts.en o ho),ts.pw,ts.kn⟩
theorem TS.at {σ:Store} {q:Q} (ts:TS σ q):∀ o∈q.os,o.a≠q.t:=fun o ho=>ne_of (ts.ob o ho) ts.tb fun e=>by cases e
theorem put_fol (w:Nat) (d k:Addr) (f f':Int):putF "following" (.int f') (fsT w d k f)=fsT w d k f':=by
  show (if _ then _ else _::(if _ then _ else _::(if _ then _ else _::(if _ then _ else _))))=_
  rw [if_neg (by decide),if_neg (by decide),if_neg (by decide),if_pos rfl]
set_option tactic.hygienic true in
theorem loopO {S:Nat→Spec} {X:Exs} {b:List PS} {x:Nat} {q:Q} {σ:Store} {Φ:Res→Prop} {A B:O→Prop} (ρf:Option D→PEnv) (hρ:∀ o d,(ρf o).put x d=ρf (some d)) (ts:TS σ q) (hA:∀ o∈q.os,A o)
    (hs:∀ as o bs σ',TS σ' { q with os:=as++o::bs }→A o→∀ Ψ:Res→Prop,(∀ E',B { o with E:=E' }→Ψ (.next (ρf (some (.obj o.a))) (σ'.set o.e (.mlist (E'.map dI)))))→vcSs S X b (ρf (some (.obj o.a))) σ' Ψ)
    (he:∀ os' σ' c,TS σ' { q with os:=os' }→(∀ o∈os',B o)→os'.map (·.cols)=q.os.map (·.cols)→Φ (.next (ρf c) σ')) :
    forS (fun e ρ' σ' Ψ=>vcSs S X b (ρ'.put x e) σ' Ψ) (keepS (.obj q.k) (q.os.map fun o => .obj o.a)) (q.os.map fun o => .obj o.a) (ρf none) σ Φ:=by
  refine for_st (fun l ρ σ'=>∃ c as,ρ=ρf c∧TS σ' { q with os:=as++l }∧(∀ o∈as,B o)∧(∀ o∈l,A o)∧(as++l).map (·.cols)=q.os.map (·.cols)∧(as++l).map (fun o=>D.obj o.a)=q.os.map fun o=>D.obj o.a) ?_ ?_ ?_ q.os ⟨none,[],rfl,ts,nofun,hA,rfl,rfl⟩
  · rintro l ρ σ' ⟨c,as,_,ts,_,_,_,e⟩
    have:=ts.ke
    rw [e] at this
    exact this
  · rintro o l ρ σ' ⟨c,as,rfl,ts,hB,hA,e1,e2⟩ Ψ hn _
    obtain ⟨ho,hA⟩:=List.forall_mem_cons.mp hA
    show vcSs S X b ((ρf c).put x (.obj o.a)) σ' Ψ
    rw [hρ]
    refine hs as o l σ' ts ho Ψ fun E' hE=>hn _ _ ⟨_,as++[{ o with E:=E' }],rfl,?_,fun y hy=>?_,hA,?_,?_⟩
    · rw [List.append_assoc]; exact ts.upd
    · rcases List.mem_append.mp hy with hy | hy
      · exact hB y hy
      · rw [List.mem_singleton.mp hy]; exact hE
    · rw [List.append_assoc,← e1]; simp only [List.map_append]; rfl
    · rw [List.append_assoc,← e2]; simp only [List.map_append]; rfl
  · rintro ρ σ' ⟨c,as,rfl,ts,hB,_,e1,_⟩
    rw [List.append_nil] at ts e1
    exact he as σ' c ts hB e1
theorem putK_new {n:Int} {r:D}:∀ {T:Tab},(∀ x∈T,x.1≠n)→putK n r (T.map tupI)=T.map tupI++[(n,r)]
  | [],_=>rfl
  | x::T,h=>by
    obtain ⟨hx,h⟩:=List.forall_mem_cons.mp h
    show (if x.1=n then _ else _::putK n r (T.map tupI))=_
    rw [if_neg hx,putK_new h]; rfl
theorem putK_at {n:Int} {r:D} {x:Int×List Int} {bs:Tab} (e:x.1=n):∀ {as:Tab},(∀ x∈as,x.1≠n)→putK n r ((as++x::bs).map tupI)=as.map tupI++(n,r)::bs.map tupI
  | [],_=>by
    show (if x.1=n then (x.1,r)::_ else _)=_
    rw [if_pos e,e]; rfl
  | y::as,h=>by
    obtain ⟨hx,h⟩:=List.forall_mem_cons.mp h
    show (if y.1=n then _ else _::putK n r ((as++x::bs).map tupI))=_
    rw [if_neg hx,putK_at e h]; rfl
theorem T_split {T:Tab} {x:Int×List Int} (hk:T.Pairwise fun a b=>a.1<b.1) (hx:x∈T):∃ as bs,T=as++x::bs∧(T.filter fun y=>decide (y.1≠x.1))=as++bs∧(∀ y∈as,y.1≠x.1)∧∀ y∈as++bs,y.1≠x.1:=by
  obtain ⟨as,bs,rfl⟩:=List.append_of_mem hx
  have hk:=List.pairwise_append.mp hk
  have ha:∀ y∈as,y.1≠x.1:=fun y hy=>Int.ne_of_lt (hk.2.2 y hy x List.mem_cons_self)
  have hb:∀ y∈bs,y.1≠x.1:=fun y hy=>Ne.symm (Int.ne_of_lt ((List.pairwise_cons.mp hk.2.1).1 y hy))
  refine ⟨as,bs,rfl,?_,ha,fun y hy=>(List.mem_append.mp hy).elim (ha y) (hb y)⟩
  rw [List.filter_append,List.filter_cons_of_neg (by simp),List.filter_eq_self.mpr fun y hy=>decide_eq_true (ha y hy),List.filter_eq_self.mpr fun y hy=>decide_eq_true (hb y hy)]
theorem KO.put {w:Nat} {T:Tab} {o:O} {x:Int×List Int} (K:KO w T o) {E':List (List Int)} (s:SortE E') (p:E'.Perm (entF o.cols x::o.E)):KO w (T++[x]) { o with E:=E' }:=
  ⟨s,by rw [List.map_append]; exact (p.trans (K.p.cons _)).trans (List.perm_append_singleton _ _).symm,K.cw,K.cl⟩
theorem KO.drop {w:Nat} {as bs:Tab} {o:O} {x:Int×List Int} (K:KO w (as++x::bs) o) {E':List (List Int)} (s:SortE E') (p:(entF o.cols x::E').Perm o.E):KO w (as++bs) { o with E:=E' }:=
  ⟨s,by
    have z:=p.trans K.p
    rw [List.map_append,List.map_cons] at z
    rw [List.map_append]
    exact (z.trans List.perm_middle).cons_inv,K.cw,K.cl⟩
theorem t_isi2 {S:Nat→Spec} {X:Exs} {ρ:PEnv} {σ:Store} {Θ:Bool→Store→Prop} {i g g₁ g₂ n:Nat} {d:D} {t:Bool} {ip gp p₁ p₂ tp p:Pos} (hi:ρ.at i=some d) (ht:ltS d σ=some t) (h:Θ t σ):(vc S X (.isi2 (.var i ip) g gp g₁ p₁ g₂ p₂ n tp p)).t ρ σ Θ:=
  v_var (S:=S) (X:=X) (p:=ip) (Ψ:=fun d σ'=>∃ t,ltS d σ'=some t∧Θ t σ') hi ⟨t,ht,h⟩
theorem lt_tl {d:D} {ds:List D} {σ:Store} (h:tl d=some ds):ltS d σ=some true:=by
  cases d with
  | tuple _=>rfl
  | list _=>rfl
  | _=>cases h
structure Nx (q q':Q) (T':Tab) (f':Nat):Prop where
  t:q'.t=q.t
  w:q'.w=q.w
  T:q'.T=T'
  f:q'.f=f'
  c:q'.os.map (·.cols)=q.os.map (·.cols)
theorem cols_mem {os os':List O} (h:os'.map (·.cols)=os.map (·.cols)) {P:List Nat→Prop} (hP:∀ o∈os,P o.cols):∀ o∈os',P o.cols:=fun o ho=>by
  have:o.cols∈os.map (·.cols):=h▸List.mem_map_of_mem ho
  obtain ⟨o',h',e⟩:=List.mem_map.mp this
  exact e▸hP o' h'
section
variable {k:Nat} {σ:Store} {Φ:D→Store→Prop} {X:Addr→Store→Prop} {o:O} {w:Nat} {T:Tab} {W:List Tri} {q:Q} {d:D} {ds:List D} {row:List Int}
noncomputable def BadR (w:Nat) (d:D):Prop:=ltS d (fun _=>none)=some false∨∃ ds,tl d=some ds∧ds.length≤100∧(ds.length≠w∨((∀ x∈ds,nob x=true)∧∃ x∈ds,whole x=false))
theorem lt_no {d:D} {σ:Store} (h:ltS d (fun _=>none)=some false):ltS d σ=some false:=by
  cases d with
  | obj a=>cases h
  | _=>exact h
theorem put_bad (ts:TS σ q) (hb:BadR q.w d) (h:X 49 σ):SS (k+4) 54 [.obj q.t,d] σ Φ X:=by
  refine ⟨rfl,(?_:vcSs _ _ p_Table_put [some (.obj q.t),some d,none,none,none] _ _)⟩
  rcases hb with hb | ⟨ds,hd,hl,hb⟩
  · exact s_ite (t_orc (t_not (t_isi2 rfl (lt_no hb) (kT rfl (s_raise (xs h))))))
  refine s_ite (t_orc (t_not (t_isi2 rfl (lt_tl hd) (kF rfl (t_orc (t_cmp (v_len rfl (tl_of σ hd) (small_ok (Nat.le_trans hl (by decide))) (v_attr rfl ts.tb (wid_f _ _ _ _) (⟨fun _=>s_raise (xs h),fun e=>t_orn ?_⟩)))))))))
  rcases hb with hb | ⟨hn,hb⟩
  · exact absurd (Int.ofNat_inj.mp (of_decide_eq_true (Bool.not_eq_false' _ |>.mp e))) hb
  refine s_loop (i_var rfl (tl_of σ hd) (for_id (fun l ρ σ'=>∃ x,((∀ y∈l,nob y=true)∧∃ y∈l,whole y=false)∧σ'=σ∧ρ=[some (.obj q.t),some d,x,none,none]) ?_ ?_ ?_ ds ⟨none,⟨hn,hb⟩,rfl,rfl⟩))
  · intro _ _ _ _
    cases d with
    | obj a=>cases hd
    | _=>trivial
  · rintro y l ρ σ' ⟨x,⟨hn,z,hz,hz'⟩,rfl,rfl⟩ Ψ hN hr
    obtain ⟨hy,hn⟩:=List.forall_mem_cons.mp hn
    refine s_ite (t_not (t_call (aE rfl (whole_ok hy (cnd (fun _=>s_raise (xs h)) fun e=>?_)))))
    rcases List.mem_cons.mp hz with rfl | hz
    · rw [hz'] at e; cases e
    · exact hN _ _ ⟨_,⟨hn,z,hz,hz'⟩,rfl,rfl⟩
  · rintro ρ σ' ⟨x,⟨_,z,hz,_⟩,rfl,rfl⟩
    cases hz
theorem put_pre (ts:TS σ q) (hd:tl d=some (row.map D.int)) (hw:q.w≤6) (hr:row.length=q.w) (h:∀ x,vcSs (SS (k+3)) ⟨retX X,none⟩ (p_Table_put.drop 2) [some (.obj q.t),some d,x,none,none] σ (retS Φ)):SS (k+4) 54 [.obj q.t,d] σ Φ X:=by
  refine ⟨rfl,(?_:vcSs _ _ p_Table_put [some (.obj q.t),some d,none,none,none] _ _)⟩
  refine s_ite (t_orc (t_not (t_isi2 rfl (lt_tl hd) (kF rfl (t_orc (t_cmp (v_len rfl (tl_of σ hd) (lsm (by omega)) (v_attr rfl ts.tb (wid_f _ _ _ _) (kF ?_ (t_orn ?_))))))))))
  · rw [List.length_map,hr,decide_eq_true rfl]; rfl
  refine s_loop (i_var rfl (tl_of σ hd) (for_st (fun l ρ σ'=>∃ x,σ'=σ∧ρ=[some (.obj q.t),some d,x,none,none]) ?_ ?_ ?_ row ⟨none,rfl,rfl⟩))
  · intro _ _ _ _
    cases d with
    | obj a=>cases hd
    | _=>trivial
  · rintro y l ρ σ' ⟨x,rfl,rfl⟩ Ψ hN hr
    exact s_ite (t_not (t_call (aE rfl (whole_ok rfl (hN _ _ ⟨_,rfl,rfl⟩)))))
  · rintro ρ σ' ⟨x,rfl,rfl⟩
    exact h x
theorem put_full (ts:TS σ q) (hd:tl d=some (row.map D.int)) (hw:q.w≤6) (hr:row.length=q.w) (hT:q.T.length=200) (h:X 61 σ):SS (k+4) 54 [.obj q.t,d] σ Φ X:=by
  refine put_pre ts hd hw hr fun x=>?_
  refine s_ite (t_cmp (v_bi (a_cons (v_attr rfl ts.tb (the_f _ _ _ _) (a_nil ⟨q.d,_,rfl,ts.di,lsE' hT,vE rfl ?_⟩)))))
  rw [List.length_map,hT]
  exact xs h
where lsE' {T:Tab} (h:T.length=200):(T.map tupI).length≤small:=by rw [List.length_map,h]; exact small_ok (by decide)
theorem put_ok' (ti:TI σ q) (hd:tl d=some (row.map D.int)) (hr:row.length=q.w) (hT:q.T.length<200) (h:∀ q' σ',TI σ' q'→Nx q q' (q.T++[((q.f:Int),row)]) (q.f+1)→Φ (.int q.f) σ'):SS (k+4) 54 [.obj q.t,d] σ Φ X:=by
  have ts:=ti.s
  have tt:=ti.tt
  have hT':=Nat.le_of_lt hT
  refine put_pre ts hd tt.w6 hr fun x=>?_
  refine s_ite (t_cmp (v_bi (a_cons (v_attr rfl ts.tb (the_f _ _ _ _) (a_nil ⟨q.d,_,rfl,ts.di,by rw [List.length_map]; exact small_ok (by omega),vE rfl ?_⟩)))))
  rw [List.length_map]
  refine cnd (fun e=>absurd (Int.ofNat_inj.mp (of_decide_eq_true e:((q.T.length:Nat):Int)=(200:Nat))) (Nat.ne_of_lt hT)) fun _=>?_
  refine s_assign (v_attr rfl ts.tb (fol_f _ _ _ _) (s_sattr (vE rfl (v_var rfl (setS_at ts.tb (Nat.le_of_ble_eq_true rfl) ?_)))))
  rw [put_fol]
  have t1:=ts.fol ts.at (q.f+1)
  have hn:∀ x∈q.T,x.1≠(q.f:Int):=fun x hx=>Int.ne_of_lt (tt.z x hx).2
  refine s_ssub (v_bi (a_var rfl (a_nil ⟨_,tl_of _ hd,lsm (by have:=tt.w6; omega),v_attr rfl t1.tb (the_f _ _ _ _) (v_var rfl (.inr ⟨q.d,_,rfl,t1.di,by rw [List.length_map]; exact small_ok (Nat.le_trans hT' (by decide)),?_⟩))⟩)))
  have eK:putK (q.f:Int) (.tuple (row.map D.int)) (q.T.map tupI)=(q.T++[((q.f:Int),row)]).map tupI:=by rw [putK_new hn,List.map_append]; rfl
  show vcSs _ _ _ _ (Store.set _ _ (.mdict (putK (q.f:Int) (.tuple (row.map D.int)) (q.T.map tupI)))) _
  rw [eK]
  have t2:=t1.dic (q.T++[((q.f:Int),row)])
  have tt':TT q.w (q.T++[((q.f:Int),row)]) (q.f+1):=by
    refine ⟨tt.w1,tt.w6,by rw [List.length_append]; exact hT,fun x hx=>?_,List.pairwise_append.mpr ⟨tt.k,List.pairwise_singleton _ _,fun x hx y hy=>?_⟩,fun x hx=>?_⟩
    · rcases List.mem_append.mp hx with hx | hx
      · exact tt.r x hx
      · rw [List.mem_singleton.mp hx]; exact hr
    · rw [List.mem_singleton.mp hy]; exact (tt.z x hx).2
    · rcases List.mem_append.mp hx with hx | hx
      · have:=tt.z x hx; omega
      · rw [List.mem_singleton.mp hx]; dsimp only; omega
  refine s_loop (i_attr rfl t2.tb (kep_f _ _ _ _) (asL_ent t2.ke) (loopO (q:={ q with f:=q.f+1,T:=q.T++[((q.f:Int),row)] }) (A:=KO q.w q.T) (B:=KO q.w (q.T++[((q.f:Int),row)])) (fun c=>[some (.obj q.t),some d,x,some (.int q.f),c]) (fun _ _=>rfl) t2 ti.ok ?_ ?_))
  · intro as o bs σ' ts' hA Ψ hN
    have hm:o∈as++o::bs:=List.mem_append_right _ List.mem_cons_self
    exact s_expr (v_meth rfl (ts'.ob o hm) (noK _ _ rfl) (a_var rfl (a_cons (sub_there (x:=((q.f:Int),row)) ts' rfl rfl (row_mem (q:={ q with f:=q.f+1,T:=q.T++[((q.f:Int),row)] }) tt' (List.mem_append_right _ List.mem_cons_self)) (a_nil (kput_ok (ts'.ob o hm) (ts'.en o hm) hA hT' tt.w6 hr hn fun E' s p=>hN E' (hA.put s p)))))))
  · intro os' σ' c ts' hB e
    refine s_ret (vE rfl (retS_ret (h _ σ' ⟨ts',hB,cols_mem e (P:=fun c=>isOrd q.w (dN c)=true) ti.io,?_,tt'⟩ ⟨rfl,rfl,rfl,rfl,e⟩)))
    have:=congrArg List.length e
    rw [List.length_map,List.length_map] at this
    exact this▸ti.ol
end
section
variable {k:Nat} {σ:Store} {Φ:D→Store→Prop} {X:Addr→Store→Prop} {o:O} {w:Nat} {T:Tab} {W:List Tri} {q:Q} {d c v:D} {ds:List D} {row:List Int}
theorem tdrop_ok (ti:TI σ q) (hd:nob d=true) (h0:rowO q.T d=none→X 73 σ) (h:∀ x,rowO q.T d=some x→∀ q' σ',TI σ' q'→Nx q q' (q.T.filter fun y=>decide (y.1≠x.1)) q.f→Φ .none σ'):SS (k+4) 60 [.obj q.t,d] σ Φ X:=by
  refine ⟨rfl,(?_:vcSs _ _ p_Table_drop [some (.obj q.t),some d,none,none] _ _)⟩
  have ts:=ti.s
  have tt:=ti.tt
  refine s_expr (v_meth rfl ts.tb (noT _ _ _ _ rfl) (aE rfl (needrow_ok ts hd (fun x hx e hm=>?_) fun e=>xs (h0 e))))
  subst e
  have h:=h x hx
  obtain ⟨as,bs,eT,eF,_,hn⟩:=T_split tt.k hm
  refine s_assign (v_lm (v_attr rfl ts.tb (the_f _ _ _ _) ⟨⟨q.d,_,rfl,ts.di⟩,aE rfl ⟨q.d,_,tI x.2,rfl,ts.di,by rw [getK_find]; exact congrArg (Option.map _) hx,by rw [List.length_map]; exact small_ok (Nat.le_trans tt.n (by decide)),?_⟩⟩))
  have eD:delK x.1 (q.T.map tupI)=(q.T.filter fun y=>decide (y.1≠x.1)).map tupI:=List.filter_map
  rw [eD]
  have t2:=ts.dic (q.T.filter fun y=>decide (y.1≠x.1))
  refine s_loop (i_attr rfl t2.tb (kep_f _ _ _ _) (asL_ent t2.ke) (loopO (q:={ q with T:=q.T.filter fun y=>decide (y.1≠x.1) }) (A:=KO q.w q.T) (B:=KO q.w (q.T.filter fun y=>decide (y.1≠x.1))) (fun c=>[some (.obj q.t),some (.int x.1),some (tI x.2),c]) (fun _ _=>rfl) t2 ti.ok ?_ ?_))
  · intro as' o bs' σ' ts' hA Ψ hN
    have hmo:o∈as'++o::bs':=List.mem_append_right _ List.mem_cons_self
    exact s_expr (v_meth rfl (ts'.ob o hmo) (noK _ _ rfl) (aE rfl (kdrop_ok (ts'.ob o hmo) (ts'.en o hmo) hA tt.n tt.w6 (tt.r x hm) hm fun E' s p=>hN E' (by rw [eF]; rw [eT] at hA; exact hA.drop s p))))
  · intro os' σ' c ts' hB e
    have hs:=List.filter_sublist (p:=fun y=>decide (y.1≠x.1)) (l:=q.T)
    refine ns (ρ:=[]) (h _ σ' ⟨ts',hB,cols_mem e (P:=fun c=>isOrd q.w (dN c)=true) ti.io,?_,tt.w1,tt.w6,Nat.le_trans hs.length_le tt.n,fun y hy=>tt.r y (hs.subset hy),tt.k.sublist hs,fun y hy=>tt.z y (hs.subset hy)⟩ ⟨rfl,rfl,rfl,rfl,e⟩)
    have:=congrArg List.length e
    rw [List.length_map,List.length_map] at this
    exact this▸ti.ol
theorem v_slc2 {S:Nat→Spec} {X:Exs} {ρ:PEnv} {Ψ:D→Store→Prop} {m:Bool} {o e:PE} {sp p:Pos} (h:(vc S X o).v ρ σ fun a σ₁=>(vc S X e).v ρ σ₁ fun d σ₂=>slcS m a (some d) none σ₂ Ψ):(vc S X (.slc m o (some e) none sp p)).v ρ σ Ψ:=h
theorem clip_nat {n c:Nat} (h:c≤n):clipAt n (c:Int)=c:=by unfold clipAt; rw [if_neg (Int.not_lt.mpr (Int.natCast_nonneg c)),Int.min_eq_left (Int.ofNat_le.mpr h),Int.max_eq_right (Int.natCast_nonneg c)]; rfl
theorem slc_lo {c:Nat} (h:c≤row.length):sliceD (row.map D.int) none (some (c:Int))=(row.take c).map D.int:=by
  show ((row.map D.int).drop 0).take (clipAt _ (c:Int) - 0)=_
  rw [List.length_map,clip_nat h,List.map_take]; rfl
theorem slc_hi {c:Nat} (h:c≤row.length):sliceD (row.map D.int) (some (c:Int)) none=(row.drop c).map D.int:=by
  show ((row.map D.int).drop (clipAt _ (c:Int))).take ((row.map D.int).length - clipAt _ (c:Int))=_
  rw [List.length_map,clip_nat h,List.map_drop,List.take_of_length_le (by rw [List.length_drop,List.length_map]; exact Nat.le_refl _)]
theorem add_tup {Ψ:D→Store→Prop} {xs ys:List D} (hl:xs.length+ys.length≤2000) (h:Ψ (.tuple (xs++ys)) σ):binS .Add (.tuple xs) (.tuple ys) σ Ψ:=⟨xs,ys,rfl,rfl,small_ok (Nat.le_trans hl (by decide)),.inr ⟨rfl,rfl,h⟩⟩
theorem chg_len {l:List Int} {n:Nat} {y:Int} (h:n<l.length):(l.take n++[y]++l.drop (n+1)).length=l.length:=by
  rw [List.length_append,List.length_append,List.length_take,List.length_drop]; show _+1+_=_; omega
theorem change_ok (ti:TI σ q) (hd:nob d=true) (hc:nob c=true) (hv:nob v=true) (h0:rowO q.T d=none→X 73 σ) (h1:(rowO q.T d).isSome=true→hasCol q.w c=false→X 85 σ) (h2:(rowO q.T d).isSome=true→hasCol q.w c=true→whole v=false→X 49 σ)
    (h:(rowO q.T d).isSome=true→hasCol q.w c=true→whole v=true→∀ σ',Φ .none σ'):SS (k+4) 59 [.obj q.t,d,c,v] σ Φ X:=by
  refine ⟨rfl,(?_:vcSs _ _ p_Table_change [some (.obj q.t),some d,some c,some v,none,none,none] _ _)⟩
  have ts:=ti.s
  have tt:=ti.tt
  refine s_expr (v_meth rfl ts.tb (noT _ _ _ _ rfl) (aE rfl (needrow_ok ts hd (fun x hx e hm=>?_) fun e=>xs (h0 e))))
  have hS:(rowO q.T d).isSome=true:=by rw [hx]; rfl
  subst e
  refine s_ite (t_not (t_meth rfl ts.tb (noT _ _ _ _ rfl) (aE rfl (has_ok ts hc (cnd (fun e=>s_raise (xs (h1 hS (Bool.not_eq_true' _ |>.mp e)))) fun e=>?_)))))
  have e1:hasCol q.w c=true:=Bool.not_eq_false' _ |>.mp e
  refine s_ite (t_not (t_call (aE rfl (whole_ok hv (cnd (fun e=>s_raise (xs (h2 hS e1 (Bool.not_eq_true' _ |>.mp e)))) fun e=>?_)))))
  have e2:whole v=true:=Bool.not_eq_false' _ |>.mp e
  have hh:=h hS e1 e2
  obtain ⟨ec,hcw⟩:=has_nat e1
  generalize natOf c=n at ec hcw
  subst ec
  cases v with
  | int y=>
    have hr:=tt.r x hm
    have w6:=tt.w6
    refine s_assign (sub_there ts rfl rfl hx (s_assign ?_))
    have h6:x.2.length≤6:=by rw [hr]; exact w6
    have hl:x.2.length≤1000:=Nat.le_trans h6 (by decide)
    refine v_bin (v_bin (v_slc1 (v_var rfl (v_var rfl ⟨_,none,some (n:Int),rfl,rfl,rfl,lsm hl,?_⟩))))
    show (vc _ _ (.tup _ _ _)).v _ _ _
    rw [slc_lo (by rw [hr]; exact Nat.le_of_lt hcw)]
    refine vE rfl (add_tup (by rw [List.length_map]; exact Nat.le_trans (Nat.succ_le_succ (Nat.le_trans (List.length_take_le' _ _) h6)) (by decide)) ?_)
    show (vc _ _ (.slc false (.var 4 _) (some (.bin .Add _ _ _)) none _ _)).v _ _ _
    refine v_slc2 (v_var rfl (vE rfl ⟨_,some ((n:Int)+1),none,rfl,rfl,rfl,lsm hl,?_⟩))
    show binS _ _ (D.tuple (sliceD (x.2.map D.int) (some ((n+1:Nat):Int)) none)) _ _
    rw [slc_hi (by rw [hr]; exact hcw)]
    refine add_tup (by rw [List.length_append,List.length_map,List.length_map]; exact Nat.le_trans (Nat.add_le_add (Nat.succ_le_succ (Nat.le_trans (List.length_take_le' _ _) h6)) (Nat.le_trans (by rw [List.length_drop]; exact Nat.sub_le _ _) h6)) (by decide)) ?_
    have eA:(x.2.take n).map D.int++[D.int y]++(x.2.drop (n+1)).map D.int=(x.2.take n++[y]++x.2.drop (n+1)).map D.int:=by rw [List.map_append,List.map_append]; rfl
    show vcSs _ _ _ (PEnv.put _ 5 (.tuple ((x.2.take n).map D.int++[D.int y]++(x.2.drop (n+1)).map D.int))) _ _
    rw [eA]
    have hr':(x.2.take n++[y]++x.2.drop (n+1)).length=q.w:=by
      rw [chg_len (by rw [hr]; exact hcw)]; exact hr
    generalize x.2.take n++[y]++x.2.drop (n+1)=row' at hr'
    obtain ⟨as,bs,eT,eF,ha,hn⟩:=T_split tt.k hm
    refine s_ssub (v_var rfl (v_attr rfl ts.tb (the_f _ _ _ _) (v_var rfl (.inr ⟨q.d,_,rfl,ts.di,by rw [List.length_map]; exact small_ok (Nat.le_trans tt.n (by decide)),?_⟩))))
    have eK:putK x.1 (.tuple (row'.map D.int)) (q.T.map tupI)=(as++(x.1,row')::bs).map tupI:=by rw [eT,putK_at rfl ha,List.map_append]; rfl
    rw [eK]
    have t2:=ts.dic (as++(x.1,row')::bs)
    refine s_loop (i_attr rfl t2.tb (kep_f _ _ _ _) (asL_ent t2.ke) (loopO (q:={ q with T:=as++(x.1,row')::bs }) (A:=KO q.w q.T) (B:=fun _=>True) (fun c=>[some (.obj q.t),some (.int x.1),some (.int n),some (.int y),some (tI x.2),some (tI row'),c]) (fun _ _=>rfl) t2 ti.ok ?_ ?_))
    · intro as' o bs' σ' ts' hA Ψ hN
      have hmo:∀ o,o∈as'++o::bs':=fun o=>List.mem_append_right _ List.mem_cons_self
      refine s_expr (v_meth rfl (ts'.ob o (hmo o)) (noK _ _ rfl) (aE rfl (kdrop_ok (ts'.ob o (hmo o)) (ts'.en o (hmo o)) hA tt.n w6 hr hm fun E' s p=>?_)))
      have t3:=ts'.upd (E':=E')
      rw [eT] at hA
      have hT:(as++bs).length≤200:=by have:=tt.n; rw [eT,List.length_append,List.length_cons] at this; rw [List.length_append]; exact Nat.le_trans (Nat.add_le_add_left (Nat.le_succ _) _) this
      refine s_expr (v_meth rfl (t3.ob { o with E:=E' } (hmo _)) (noK _ _ rfl) (aE rfl (kput_ok (o:={ o with E:=E' }) (t3.ob { o with E:=E' } (hmo _)) (t3.en { o with E:=E' } (hmo _)) (hA.drop s p) hT w6 hr' hn fun E2 s2 p2=>?_)))
      have z:=hN E2 trivial
      rw [set_set]
      exact z
    · intro os' σ' c ts' hB e
      exact ns (ρ:=[]) (hh σ')
  | _=>cases e2
end
theorem v_dct {S:Nat→Spec} {X:Exs} {ρ:PEnv} {σ:Store} {Ψ:D→Store→Prop} {p:Pos} (h:∀ a,freshIn σ a→Ψ (.obj a) (σ.set a (.mdict []))):(vc S X (.dct p)).v ρ σ Ψ:=h
theorem v_new {S:Nat→Spec} {X:Exs} {ρ:PEnv} {σ:Store} {Ψ:D→Store→Prop} {C gi g:Nat} {gp p:Pos} {es:List PE} (h:argsV (vcL S X es) ρ σ fun ds σ₁=>newS C (S gi) ds σ₁ Ψ X.x):(vc S X (.new C gi g gp es p)).v ρ σ Ψ:=h
theorem v_appG {S:Nat→Spec} {X:Exs} {ρ:PEnv} {σ:Store} {Ψ:D→Store→Prop} {o e:PE} {ap p:Pos} (h:(vc S X o).v ρ σ fun a σ₁=>isML a σ₁∧(vc S X e).v ρ σ₁ fun b σ₂=>appS a b σ₂ Ψ):(vc S X (.app o ap e p)).v ρ σ Ψ:=h
theorem ifs1 {S:Nat→Spec} {X:Exs} {ρ:PEnv} {σ:Store} {Θ:Bool→Store→Prop} {e:PE} (h:(vc S X e).t ρ σ fun b σ'=>(b=true→Θ true σ')∧(b=false→Θ false σ')):ifsT (vcL S X [e]) ρ σ Θ:=h
noncomputable def isWid:D→Bool
  | .int i=>decide (1≤i)&&decide (i≤6)
  | _=>false
theorem any_pys {e:D} {x:PyData} (he:pl 20 e) (hx:D.py e=some x):∀ {ds:List D} {ys:List PyData},(∀ d∈ds,pl 20 d)→D.pys ds=some ys→((ys.any fun y=>PyData.eqv y x)=true ↔ e∈ds)
  | [],ys,_,h=>by cases h; exact ⟨nofun,nofun⟩
  | d::ds,ys,hp,h=>by
    obtain ⟨hd,hp⟩:=List.forall_mem_cons.mp hp
    obtain ⟨y,hy,h⟩:=Option.bind_eq_some_iff.mp h
    obtain ⟨zs,hz,rfl⟩:=Option.map_eq_some_iff.mp h
    rw [List.any_cons,Bool.or_eq_true,any_pys he hx hp hz,pl_eqv 20 20 d e y x hd he hy hx,List.mem_cons]
    exact or_congr eq_comm Iff.rfl
section
variable {k:Nat} {σ:Store} {Φ:D→Store→Prop} {X:Addr→Store→Prop} {o:O} {w:Nat} {T:Tab} {W:List Tri} {q:Q} {d:D} {ds:List D} {row:List Int}
theorem in_any {os:List O} {x:PyData} (hx:D.py d=some x) (hs:SeqAt.shaped x=true) {Ψ:D→Store→Prop} (h:∀ t:Bool,(∀ ns,d=dN ns→(t=true ↔ ∃ o∈os,o.cols=ns))→Ψ (.bool t) σ):cmpS .In d (.list (os.map fun o=>dN o.cols)) σ Ψ:=by
  have hp:∀ y∈os.map (fun o=>dN o.cols),∀ n,pl (n+1) y:=fun y hy n=>by
    obtain ⟨o,_,rfl⟩:=List.mem_map.mp hy
    exact pl_dN _ _
  obtain ⟨ys,hy,hc,hl⟩:=pys_ok (pl_py 1) _ fun y hy=>hp y hy 0
  have z:inG d (.list (os.map fun o=>dN o.cols)) σ fun t=>Ψ (.bool t) σ:=by
    refine ⟨x,ys,?_,congrArg (Option.map PyData.list) hy,hs,hc,Nat.le_trans hl (by decide),h _ fun ns e=>?_⟩
    · cases d with
      | obj a=>cases hx
      | _=>exact hx
    · subst e
      refine (any_pys (pl_dN ns 19) hx (fun y h=>hp y h 19) hy).trans ?_
      rw [List.mem_map]
      exact ⟨fun ⟨o,ho,e⟩=>⟨o,ho,dN_inj e⟩,fun ⟨o,ho,e⟩=>⟨o,ho,congrArg dN e⟩⟩
  cases d with
  | int i=>exact .inr (.inr z)
  | _=>exact z
theorem init_bad (ha:σ q.t=some (.inst 387 q.dx [])) (hd:nob d=true) (hw:isWid d=false) (h:X 37 σ):SS (k+2) 52 [.obj q.t,d] σ Φ X:=by
  refine ⟨rfl,(?_:vcSs _ _ p_Table___init__ [some (.obj q.t),some d] _ _)⟩
  refine s_ite (t_orc (t_not (t_call (aE rfl (whole_ok hd ?_)))))
  cases d with
  | int i=>
    refine kF rfl (t_orc (tE rfl (kT ?_ (s_raise (xs h)))))
    show (!(decide (1≤i)&&decide (i≤6)))=true
    rw [show (decide (1≤i)&&decide (i≤6))=false from hw]; rfl
  | _=>exact kT rfl (s_raise (L08.xs h))
theorem init_ok {a dx:Addr} (ha:σ a=some (.inst 387 dx [])) (w1:1≤w) (w6:w≤6) (h:∀ d k σ',TI σ' ⟨a,dx,d,k,w,[],0,[]⟩→Φ .none σ'):SS (k+2) 52 [.obj a,.int w] σ Φ X:=by
  refine ⟨rfl,(?_:vcSs _ _ p_Table___init__ [some (.obj a),some (.int w)] _ _)⟩
  refine s_ite (t_orc (t_not (t_call (aE rfl (whole_ok rfl (kF rfl (t_orc (tE rfl (kF ?_ (t_orn ?_))))))))))
  · show (!(decide ((1:Int)≤w)&&decide ((w:Int)≤6)))=false
    rw [decide_eq_true (by omega:(1:Int)≤w),decide_eq_true (by omega:(w:Int)≤6)]; rfl
  refine s_sattr (v_var rfl (v_var rfl (setS_at ha (Nat.zero_le _) (s_sattr (v_dct fun b hb=>v_var rfl (setS_at (fr_at hb (set_at _ _ _)) (Nat.le_of_ble_eq_true rfl) (s_sattr (v_mlist (a_nil ⟨rfl,fun c hc=>v_var rfl (setS_at (fr_at hc (set_at _ _ _)) (Nat.le_of_ble_eq_true rfl) (s_sattr (vE rfl (v_var rfl (setS_at (set_at _ _ _) (Nat.le_of_ble_eq_true rfl) (ns (ρ:=[]) (h b c _ ?_)))))))⟩)))))))))
  have ab:=fr_ne hb (set_at _ _ _)
  have ac:=fr_ne hc (set_at _ _ _)
  have bc:=fr_ne hc ((set_ne (Ne.symm ab)).trans (set_at _ _ _))
  exact ⟨⟨set_at _ _ _,(set_ne (Ne.symm ab)).trans ((set_ne (Ne.symm ab)).trans ((set_ne bc).trans ((set_ne (Ne.symm ab)).trans (set_at _ _ _)))),(set_ne (Ne.symm ac)).trans ((set_ne (Ne.symm ac)).trans (set_at _ _ _)),nofun,nofun,List.nodup_nil,nofun⟩,nofun,nofun,Nat.zero_le _,w1,w6,Nat.zero_le _,nofun,List.Pairwise.nil,nofun⟩
theorem put_kep (w:Nat) (d k k':Addr) (f:Int):putF "kept" (.obj k') (fsT w d k f)=fsT w d k' f:=by
  show (if _ then _ else _::(if _ then _ else _::(if _ then _ else _)))=_
  rw [if_neg (by decide),if_neg (by decide),if_pos rfl]
theorem fm_map {α β:Type} (p:α→Bool) (f:α→β):∀ l:List α,(l.filterMap fun x=>bif p x then some (f x) else none)=(l.filter p).map f
  | []=>rfl
  | x::l=>by
    cases e:p x with
    | true=>rw [List.filterMap_cons_some (b:=f x) (by rw [e]; rfl),List.filter_cons_of_pos e,fm_map p f l]; rfl
    | false=>rw [List.filterMap_cons_none (by rw [e]; rfl),List.filter_cons_of_neg (by rw [e]; exact Bool.false_ne_true),fm_map p f l]
theorem forget_ok (ti:TI σ q) (hd:nobs d=true) (h0:keptO q d=none→X 109 σ) (h:∀ o,keptO q d=some o→∀ k' σ',TI σ' { q with k:=k',os:=q.os.filter fun p=>!decide (p.cols=o.cols) }→Φ .none σ'):SS (k+5) 56 [.obj q.t,d] σ Φ X:=by
  refine ⟨rfl,(?_:vcSs _ _ p_Table_forget [some (.obj q.t),some d,none,none] _ _)⟩
  have ts:=ti.s
  refine s_assign (v_meth rfl ts.tb (noT _ _ _ _ rfl) (aE rfl (keptof_ok ti hd (fun o ho hm=>?_) fun z=>xs (h0 z))))
  refine s_sattr (v_comp (m:=true) (l:=q.os) (g:=fun o => .obj o.a) (f:=fun p=>bif !decide (p.cols=o.cols) then some (.obj p.a) else none) (i_attr rfl ts.tb (kep_f _ _ _ _) (asL_ent ts.ke)) ts.ke (Nat.le_trans ti.ol (by decide)) (fun y hy K hK=>ifs1 (t_cmp (v_attr rfl (ts.ob y hy) (col_f _ _) (v_attr rfl (ts.ob o hm) (col_f _ _) (neN fun t ht=>?_))))) ?_)
  · cases t with
    | true=>rw [decide_eq_true (ht.mp rfl)] at hK; exact kF rfl (kF rfl hK)
    | false=>rw [decide_eq_false (fun e=>by cases ht.mpr e)] at hK; exact kT rfl (kT rfl (v_var rfl hK))
  rw [fm_map]
  intro k' hk'
  refine v_var rfl (setS_at (fr_at hk' ts.tb) (Nat.le_of_ble_eq_true rfl) ?_)
  rw [put_kep]
  refine ns (ρ:=[]) (h o ho k' _ ?_)
  have hs:=List.filter_sublist (p:=fun p:O=>!decide (p.cols=o.cols)) (l:=q.os)
  have nt:∀ x m,σ x=some m→x≠q.t→((σ.set k' (.mlist ((q.os.filter fun p=>!decide (p.cols=o.cols)).map fun o => .obj o.a))).set q.t (.inst 387 q.dx (fsT q.w q.d k' q.f))) x=some m:=fun x m hx hn=>(set_ne hn).trans (fr_at hk' hx)
  exact ⟨⟨set_at _ _ _,nt _ _ ts.di (ne_of ts.di ts.tb nofun),(set_ne (Ne.symm (fr_ne hk' ts.tb))).trans (set_at _ _ _),fun y hy=>nt _ _ (ts.ob y (hs.subset hy)) (ts.at y (hs.subset hy)),fun y hy=>nt _ _ (ts.en y (hs.subset hy)) (ne_of (ts.en y (hs.subset hy)) ts.tb nofun),List.Pairwise.sublist (hs.map _) ts.pw,fun e=>by
    obtain ⟨y,hy,e⟩:=List.mem_map.mp e
    exact fr_ne hk' (ts.en y (hs.subset hy)) e⟩,fun y hy=>ti.ok y (hs.subset hy),fun y hy=>ti.io y (hs.subset hy),Nat.le_trans hs.length_le ti.ol,ti.tt⟩
end
theorem TS.mono {σ σ':Store} {q:Q} (ts:TS σ q) (h:Sub σ σ'):TS σ' q:=⟨h _ _ ts.tb,h _ _ ts.di,h _ _ ts.ke,fun o ho=>h _ _ (ts.ob o ho),fun o ho=>h _ _ (ts.en o ho),ts.pw,ts.kn⟩
set_option tactic.hygienic true in
theorem set_self {σ:Store} {a:Addr} {m:MObj} (h:σ a=some m):σ.set a m=σ:=by
  funext x
  unfold Store.set
  split
  · rename_i e; rw [e,h]
  · rfl
theorem py_ord {w:Nat} {d:D} (h:isOrd w d=true):∃ x,D.py d=some x∧SeqAt.shaped x=true:=by
  rw [(ord_dN h).1]; exact pl_shaped (pl_dN _ 19)
theorem kept_iff {q:Q} {d:D} (h:isOrd q.w d=true) {t:Bool} (ht:∀ ns,d=dN ns→(t=true ↔ ∃ o∈q.os,o.cols=ns)):t=(keptO q d).isSome:=by
  have e:keptO q d=q.os.find? (fun o=>decide (o.cols=natsOf d)):=by rw [keptO,h]; rfl
  have ht:=ht _ (ord_dN h).1
  rw [e,Bool.eq_iff_iff,ht,List.find?_isSome]
  exact ⟨fun ⟨o,ho,e⟩=>⟨o,ho,decide_eq_true e⟩,fun ⟨o,ho,e⟩=>⟨o,ho,of_decide_eq_true e⟩⟩
section
variable {k:Nat} {σ:Store} {Φ:D→Store→Prop} {X:Addr→Store→Prop} {o:O} {w:Nat} {T:Tab} {W:List Tri} {q:Q} {d:D} {ds:List D} {row:List Int}
theorem tell_ok (ti:TI σ q) (hd:nobs d=true) (h0:(isOrd q.w d=true→keptO q d=none→q.os.length<8→False)→X 109 σ)
    (h:isOrd q.w d=true→keptO q d=none→q.os.length<8→∀ o σ',o.cols=natsOf d→TI σ' { q with os:=q.os++[o] }→Φ .none σ'):SS (k+4) 55 [.obj q.t,d] σ Φ X:=by
  refine ⟨rfl,(?_:vcSs _ _ p_Table_tell [some (.obj q.t),some d,none,none] _ _)⟩
  have ts:=ti.s
  have tt:=ti.tt
  refine s_ite (t_not (t_meth rfl ts.tb (noT _ _ _ _ rfl) (aE rfl (isord_ok ts tt.w6 hd (cnd (fun e=>s_raise (xs (h0 fun z _ _=>?_))) fun e=>?_)))))
  · rw [z] at e; cases e
  have e1:isOrd q.w d=true:=Bool.not_eq_false' _ |>.mp e
  obtain ⟨x,hx,hs⟩:=py_ord e1
  refine s_ite (t_cmp (v_var rfl (v_meth rfl ts.tb (noT _ _ _ _ rfl) (a_nil (orders_ok ts ti.ol (in_any hx hs fun t ht=>?_))))))
  have ht:=kept_iff e1 ht
  refine cnd (fun e=>s_raise (xs (h0 fun _ z _=>?_))) fun e=>?_
  · rw [ht,z] at e; cases e
  have e2:keptO q d=none:=by rw [ht] at e; exact Option.isSome_eq_false_iff.mp e|>Option.isNone_iff_eq_none.mp
  have hol:(q.os.map fun o=>D.obj o.a).length≤small:=by rw [List.length_map]; exact small_ok (Nat.le_trans ti.ol (by decide))
  refine s_ite (t_cmp (v_bi (a_cons (v_attr rfl ts.tb (kep_f _ _ _ _) (a_nil (len_at (asL_ent ts.ke) hol (vE rfl (cnd (fun e=>s_raise (xs (h0 fun _ _ z=>?_))) fun e=>?_))))))))
  · rw [List.length_map] at e; have:=Int.ofNat_inj.mp (of_decide_eq_true e:((q.os.length:Nat):Int)=(8:Nat)); omega
  have e3:q.os.length<8:=by
    rw [List.length_map] at e
    have:=of_decide_eq_false e
    have:=ti.ol; omega
  have h:=h e1 e2 e3
  clear h0 e ht hx hs x
  obtain ⟨ed,ecw⟩:=ord_dN e1
  have ecl:(natsOf d).length≤100:=by
    cases d with
    | tuple ds=>
      have:=Nat.le_of_ble_eq_true (Bool.and_eq_true_iff.mp hd).1
      show (ds.map natOf).length≤100
      rw [List.length_map]; exact this
    | _=>exact Nat.zero_le _
  refine s_assign (v_new (aE rfl fun a dx ha hdx hne=>kinit_ok (set_at _ _ _) fun e he=>⟨rfl,?_⟩))
  generalize hσ:Store.set (Store.set (Store.set (Store.set σ a _) a _) e _) a _=σ1
  have ea:a≠e:=fr_ne he (set_at _ _ _)
  have s0:∀ x m,σ x=some m→x≠a∧x≠e:=fun x m hx=>⟨fr_ne ha hx,fr_ne he ((set_ne (fr_ne ha hx)).trans ((set_ne (fr_ne ha hx)).trans hx))⟩
  have s1:∀ x m,σ x=some m→σ1 x=some m:=fun x m hx=>by
    obtain ⟨n1,n2⟩:=s0 x m hx
    rw [← hσ]
    exact (set_ne n1).trans ((set_ne n2).trans ((set_ne n1).trans ((set_ne n1).trans hx)))
  have a1:σ1 a=some (.inst 218 dx (fsK d e)):=by rw [← hσ]; exact set_at _ _ _
  have e1':σ1 e=some (.mlist []):=by rw [← hσ]; exact (set_ne (Ne.symm ea)).trans (set_at _ _ _)
  clear hσ
  have sE:∀ m,Sub σ (σ1.set e m):=fun m x mx hx=>(set_ne (s0 x mx hx).2).trans (s1 x mx hx)
  refine s_loop (i_of (v_meth rfl (s1 _ _ ts.tb) (noT _ _ _ _ rfl) (a_nil (numbers_ok (ts.mono s1) tt ⟨_,rfl,?_⟩))))
  rw [List.map_map]
  refine for_st (α:=Int×List Int) (g:=fun x=>D.int x.1) (fun l ρ σ'=>∃ (E':List (List Int)) (T1:Tab) (c:Option D),q.T=T1++l∧σ'=σ1.set e (.mlist (E'.map dI))∧KO q.w T1 ⟨a,dx,e,natsOf d,E'⟩∧ρ=[some (.obj q.t),some d,some (.obj a),c]) (fun _ _ _ _=>trivial) ?_ ?_ q.T ⟨[],[],none,rfl,(set_self e1').symm,⟨List.Pairwise.nil,List.Perm.nil,ecw,ecl⟩,rfl⟩
  · rintro x l ρ σ' ⟨E',T1,c,eT,rfl,K,rfl⟩ Ψ hN _
    have hm:x∈q.T:=by rw [eT]; exact List.mem_append_right _ List.mem_cons_self
    have t2:=ts.mono (sE (.mlist (E'.map dI)))
    have aE':(σ1.set e (.mlist (E'.map dI))) a=some (.inst 218 dx (fsK (dN (natsOf d)) e)):=by rw [← ed]; exact (set_ne ea).trans a1
    have hk:=tt.k
    rw [eT] at hk
    refine s_expr (v_meth rfl aE' (noK _ _ rfl) (a_var rfl (a_cons (sub_there t2 rfl rfl (row_mem tt hm) (a_nil (kput_ok (o:=⟨a,dx,e,natsOf d,E'⟩) aE' (set_at _ _ _) K (by have:=tt.n; rw [eT,List.length_append] at this; omega) tt.w6 (tt.r x hm) (fun y hy=>Int.ne_of_lt ((List.pairwise_append.mp hk).2.2 y hy x List.mem_cons_self)) fun E2 s p=>?_))))))
    rw [set_set]
    exact hN _ _ ⟨E2,T1++[x],_,by rw [List.append_assoc]; exact eT,rfl,K.put s p,rfl⟩
  · rintro ρ σ' ⟨E',T1,c,eT,rfl,K,rfl⟩
    rw [List.append_nil] at eT
    subst eT
    have t2:=ts.mono (sE (.mlist (E'.map dI)))
    have ke:=t2.ke
    refine s_expr (v_appG (v_attr rfl t2.tb (kep_f _ _ _ _) ⟨⟨_,ke⟩,v_var rfl ⟨_,ke,hol,ns (ρ:=[]) (h ⟨a,dx,e,natsOf d,E'⟩ _ rfl ?_)⟩⟩))
    have hek:e≠q.k:=fun z=>(s0 _ _ ts.ke).2 z.symm
    have nk:∀ x m,(σ1.set e (.mlist (E'.map dI))) x=some m→x≠q.k→((σ1.set e (.mlist (E'.map dI))).set q.k (.mlist ((q.os.map fun o => .obj o.a)++[.obj a]))) x=some m:=fun x m hx hn=>(set_ne hn).trans hx
    have mem:∀ {P:O→Prop},(∀ y∈q.os,P y)→P ⟨a,dx,e,natsOf d,E'⟩→∀ y∈q.os++[⟨a,dx,e,natsOf d,E'⟩],P y:=fun {P} h1 h2 y hy=>by
      rcases List.mem_append.mp hy with hy | hy
      · exact h1 y hy
      · rw [List.mem_singleton.mp hy]; exact h2
    refine ⟨⟨nk _ _ t2.tb (ne_of ts.tb ts.ke nofun),nk _ _ t2.di (ne_of ts.di ts.ke nofun),?_,mem (fun y hy=>nk _ _ (t2.ob y hy) (ne_of (ts.ob y hy) ts.ke nofun)) (nk _ _ ?_ (Ne.symm (s0 _ _ ts.ke).1)),mem (fun y hy=>nk _ _ (t2.en y hy) fun z=>ts.kn (z▸List.mem_map_of_mem (f:=(·.e)) hy)) (nk _ _ (set_at _ _ _) hek),?_,?_⟩,mem ti.ok K,mem ti.io (by rw [← ed]; exact e1),?_,tt⟩
    · rw [List.map_append]; exact set_at _ _ _
    · rw [← ed]; exact (set_ne ea).trans a1
    · rw [List.map_append]
      refine List.nodup_append.mpr ⟨ts.pw,List.pairwise_singleton _ _,fun y hy z hz=>?_⟩
      obtain ⟨o,ho,rfl⟩:=List.mem_map.mp hy
      rw [List.mem_singleton.mp hz]
      exact (s0 _ _ (ts.en o ho)).2
    · rw [List.map_append]
      intro z
      rcases List.mem_append.mp z with z | z
      · exact ts.kn z
      · exact hek (List.mem_singleton.mp z).symm
    · rw [List.length_append]; exact e3
end
theorem cF {X Y:Prop} (h:Y):cond false X Y:=h
theorem cT {X Y:Prop} (h:X):cond true X Y:=h
theorem t_isn {S:Nat→Spec} {X:Exs} {ρ:PEnv} {σ:Store} {Θ:Bool→Store→Prop} {i:Nat} {d:D} {b:Bool} {ip cp p:Pos} (hi:ρ.at i=some d) (hd:isNone d=some b) (h:Θ b σ):(vc S X (.cmp .Is (.var i ip) (.cnone cp) p)).t ρ σ Θ:=
  v_var (S:=S) (X:=X) (p:=ip) (Ψ:=fun d σ'=>∃ t,isNone d=some t∧Θ t σ') hi ⟨b,hd,h⟩
theorem v_compI {S:Nat→Spec} {X:Exs} {ρ:PEnv} {σ:Store} {Ψ:D→Store→Prop} {m:Bool} {elt:PE} {x:Nat} {it:IT} {ifs:List PE} {sc:Scope} {fr:List Nat} {xp p:Pos} (h:vcI S X it ρ σ fun d ds σ₁=>ds.length≤small∧
      compS (fun e σ' K=>ifsT (vcL S noX ifs) ((ρ.only fr).put x e) σ' fun b σ''=>(b=true→(vc S noX elt).v ((ρ.only fr).put x e) σ'' fun r σ₃=>K (some r) σ₃)∧(b=false→K Option.none σ'')) (keepS d ds) ds σ₁ []
        fun out σ₂=>mkS m out σ₂ Ψ):(vc S X (.comp m elt x xp it ifs sc fr p)).v ρ σ Ψ:=h
theorem compS_any {α:Type} {step:D→Store→(Option D→Store→Prop)→Prop} {keep:Store→Prop} {σ:Store} (g:α→D) (hk:keep σ):∀ (l:List α) (acc:List D) {Ψ:List D→Store→Prop},(∀ y∈l,∀ K:Option D→Store→Prop,K none σ→K (some (g y)) σ→step (g y) σ K)→(∀ l':List α,l'.Sublist l→Ψ (acc++l'.map g) σ)→compS step keep (l.map g) σ acc Ψ
  | [],acc,Ψ,_,h=>by
    have:=h [] (List.Sublist.refl _)
    rw [List.map_nil,List.append_nil] at this; exact this
  | y :: l,acc,Ψ,hs,h=>by
    obtain ⟨hy,hs⟩:=List.forall_mem_cons.mp hs
    refine hy _ ⟨hk,compS_any g hk l _ hs fun l' hl=>?_⟩ ⟨hk,compS_any g hk l _ hs fun l' hl=>?_⟩
    · have:=h l' (hl.cons y)
      show Ψ (acc++[]++l'.map g) σ
      rw [List.append_nil]; exact this
    · have:=h (y::l') (hl.cons_cons y)
      show Ψ (acc++[g y]++l'.map g) σ
      rw [List.append_assoc]; exact this
noncomputable abbrev pD (p:D×Int):D := .tuple [p.1,.int p.2]
theorem nobs_dN {cols:List Nat} (h:cols.length≤100):nobs (dN cols)=true:=by
  refine Bool.and_eq_true_iff.mpr ⟨Nat.ble_eq_true_of_le (by rw [List.length_map]; exact h),List.all_eq_true.mpr fun x hx=>?_⟩
  obtain ⟨c,_,rfl⟩:=List.mem_map.mp hx
  rfl
noncomputable def Way (q:Q) (d:D):Prop:=d = .none∨∃ o,nobs d=true∧keptO q d=some o
theorem nats_dN (cols:List Nat):natsOf (dN cols)=cols:=by
  show (cols.map _).map natOf=cols
  rw [List.map_map]; exact List.map_id cols
theorem way_o {σ:Store} {q:Q} (ti:TI σ q) {o:O} (ho:o∈q.os):Way q (dN o.cols):=by
  have e:keptO q (dN o.cols)=q.os.find? fun p=>decide (p.cols=o.cols):=by rw [keptO,ti.io o ho,nats_dN]; rfl
  have:(keptO q (dN o.cols)).isSome=true:=by rw [e,List.find?_isSome]; exact ⟨o,ho,decide_eq_true rfl⟩
  obtain ⟨o',h⟩:=Option.isSome_iff_exists.mp this
  exact .inr ⟨o',nobs_dN (ti.ok o ho).cl,h⟩
section
variable {k:Nat} {σ:Store} {Φ:D→Store→Prop} {X:Addr→Store→Prop} {o:O} {w:Nat} {T:Tab} {W:List Tri} {q:Q} {d way:D}
theorem w6 (ti:TI σ q) (hc:∀ t∈W,t.1<q.w):∀ t∈W,t.1<6:=fun t ht=>Nat.lt_of_lt_of_le (hc t ht) ti.tt.w6
theorem costof_ok (ha:σ o.a=some (.inst 218 o.dx (fsK (dN o.cols) o.e))) (he:σ o.e=some (.mlist (o.E.map dI))) (K:KO w T o) (hT:T.length≤200) (h6:∀ t∈W,t.1<6) (hW:W.length≤1000) {t:D} (h:∀ n:Int,Φ (.int n) σ):SS (k+5) 46 [t,.obj o.a,.list (W.map triD)] σ Φ X:=by
  refine ⟨rfl,(?_:vcSs _ _ p_Table_cost_of [some t,some (.obj o.a),some (.list (W.map triD)),none] _ _)⟩
  exact s_assign (v_bi (a_cons (v_meth rfl ha (noK _ _ rfl) (aE rfl (stretch_ok ha he K hT h6 hW fun ns hm hl=>a_nil (len_at rfl (lsE (Nat.le_trans hl hT)) (s_ite (t_meth rfl ha (noK _ _ rfl) (aE rfl (covers_ok ha fun b=>cnd (fun _=>s_ret (vE rfl (retS_ret (h _)))) fun _=>s_ret (v_bin (vE rfl (vE rfl ⟨.inl (by decide),retS_ret (h _)⟩)))))))))))))
theorem costs_ok (ti:TI σ q) (hc:∀ t∈W,t.1<q.w) (hW:W.length≤20) (h:∀ p (ps:List (D×Int)),(∀ x∈p::ps,Way q x.1)→(p::ps).length≤9→Φ (.list ((p::ps).map pD)) σ):SS (k+6) 47 [.obj q.t,.list (W.map triD)] σ Φ X:=by
  refine ⟨rfl,(?_:vcSs _ _ p_Table_costs [some (.obj q.t),some (.list (W.map triD)),none,none] _ _)⟩
  have ts:=ti.s
  refine s_expr (v_meth rfl ts.tb (noT _ _ _ _ rfl) (aE rfl (nw_ok ts hc hW ?_)))
  refine s_assign (v_mlist (a_cons (v_tup (a_cons (vE rfl (a_cons (v_bi (a_cons (v_attr rfl ts.tb (the_f _ _ _ _) (a_nil ⟨q.d,_,rfl,ts.di,lsz ti.tt.n,?_⟩))))))))))
  refine a_nil ⟨rfl,a_nil ⟨rfl,fun a hf=>?_⟩⟩
  have t1:=fun m=>ts.mono (fr_sub (m:=m) hf)
  refine s_loop (i_attr rfl (t1 _).tb (kep_f _ _ _ _) (asL_ent (t1 _).ke) (for_st (fun l ρ σ'=>∃ (p:D×Int) (ps:List (D×Int)) (c:Option D),((∀ x∈p::ps,Way q x.1)∧(∀ o∈l,o∈q.os)∧(p::ps).length+l.length≤9)∧σ'=σ.set a (.mlist ((p::ps).map pD))∧ρ=[some (.obj q.t),some (.list (W.map triD)),some (.obj a),c]) ?_ ?_ ?_ q.os ⟨(.none,((q.T.map tupI).length:Nat)),[],none,⟨fun x hx => .inl (by rw [List.mem_singleton.mp hx]),fun o ho=>ho,?_⟩,rfl,rfl⟩))
  · rintro l ρ σ' ⟨p,ps,c,_,rfl,rfl⟩; exact (t1 _).ke
  · rintro o l ρ σ' ⟨p,ps,c,⟨hp,hl,hn⟩,rfl,rfl⟩ Ψ hN _
    obtain ⟨ho,hl⟩:=List.forall_mem_cons.mp hl
    refine s_expr (v_app rfl (set_at _ _ _) (v_tup (a_cons (v_attr rfl ((t1 _).ob o ho) (col_f _ _) (a_cons (v_meth rfl (t1 _).tb (noT _ _ _ _ rfl) (aE rfl (costof_ok ((t1 _).ob o ho) ((t1 _).en o ho) (ti.ok o ho) ti.tt.n (w6 ti hc) (Nat.le_trans hW (by decide)) fun n=>a_nil ⟨rfl,_,set_at _ _ _,?_,?_⟩))))))))
    · rw [List.length_map]; exact small_ok (by omega)
    · rw [set_set]
      refine hN _ _ ⟨p,ps++[(dN o.cols,n)],_,⟨fun x hx=>?_,hl,?_⟩,?_,rfl⟩
      · rcases List.mem_append.mp (show x∈(p::ps)++[(dN o.cols,n)] from hx) with hx | hx
        · exact hp x hx
        · rw [List.mem_singleton.mp hx]; exact way_o ti ho
      · exact len_step (M:=p::ps) hn
      · congr 2
        exact (List.map_append (l₁:=p::ps) (l₂:=[(dN o.cols,n)]) (f:=pD)).symm
  · rintro ρ σ' ⟨p,ps,c,⟨hp,_,hn⟩,rfl,rfl⟩
    exact s_ret (v_var rfl (retS_frz hf (h p ps hp hn)))
  · have:=ti.ol; show 1+_≤_; omega
where lsz {α β:Type} {f:α→β} {xs:List α} (h:xs.length≤200):(xs.map f).length≤small:=by rw [List.length_map]; exact small_ok (Nat.le_trans h (by decide))
theorem plan_ok (ti:TI σ q) (hc:∀ t∈W,t.1<q.w) (hW:W.length≤20) (h:∀ p:D×Int,Way q p.1→Φ (pD p) σ):SS (k+7) 51 [.obj q.t,.list (W.map triD)] σ Φ X:=by
  refine ⟨rfl,(?_:vcSs _ _ p_Table_plan [some (.obj q.t),some (.list (W.map triD)),none,none,none] _ _)⟩
  refine s_assign (v_meth rfl ti.s.tb (noT _ _ _ _ rfl) (aE rfl (costs_ok ti hc hW fun p ps hp hl=>?_)))
  refine s_assign (v_subc rfl rfl (lsm (Nat.le_trans hl (by decide))) rfl ?_)
  refine s_loop (i_var rfl rfl (for_st (fun l ρ σ'=>∃ (b:D×Int) (c:Option D),(Way q b.1∧∀ x∈l,Way q x.1)∧σ'=σ∧ρ=[some (.obj q.t),some (.list (W.map triD)),some (.list ((p::ps).map pD)),some (pD b),c]) (fun _ _ _ _=>trivial) ?_ ?_ (p::ps) ⟨p,none,⟨hp p List.mem_cons_self,hp⟩,rfl,rfl⟩))
  · rintro x l ρ σ' ⟨b,c,⟨hb,hl⟩,rfl,rfl⟩ Ψ hN _
    obtain ⟨hx,hl⟩:=List.forall_mem_cons.mp hl
    exact s_ite (tE rfl (cnd (fun _=>s_assign (vE rfl (hN _ _ ⟨x,_,⟨hx,hl⟩,rfl,rfl⟩))) fun _=>hN _ _ ⟨b,_,⟨hb,hl⟩,rfl,rfl⟩))
  · rintro ρ σ' ⟨b,c,⟨hb,_⟩,rfl,rfl⟩
    exact s_ret (vE rfl (retS_ret (h b hb)))
theorem walked_ok (ti:TI σ q) (hw:Way q way) (hc:∀ t∈W,t.1<q.w) (hW:W.length≤20) (h:∀ ns:List Int,(∀ n∈ns,n∈q.T.map (·.1))→ns.length≤q.T.length→Φ (dI ns) σ):SS (k+5) 48 [.obj q.t,way,.list (W.map triD)] σ Φ X:=by
  refine ⟨rfl,(?_:vcSs _ _ p_Table_walked [some (.obj q.t),some way,some (.list (W.map triD)),none] _ _)⟩
  have ts:=ti.s
  rcases hw with rfl | ⟨o,hn,ho⟩
  · exact s_ite (tE rfl (s_expr (v_meth rfl ts.tb (noT _ _ _ _ rfl) (aE rfl (nw_ok ts hc hW (s_ret (v_meth rfl ts.tb (noT _ _ _ _ rfl) (a_nil (numbers_ok ts ti.tt (retS_ret (h _ (fun n hn=>hn) (by rw [List.length_map]; exact Nat.le_refl _))))))))))))
  · have e:isNone way=some false:=by
      cases way with
      | none=>rw [keptO] at ho; cases ho
      | _=>rfl
    refine s_ite (t_isn rfl e (cF (s_assign (v_meth rfl ts.tb (noT _ _ _ _ rfl) (aE rfl (keptof_ok ti hn (fun o' h' hm=>?_) fun z=>by rw [ho] at z; cases z))))))
    exact s_expr (v_meth rfl ts.tb (noT _ _ _ _ rfl) (aE rfl (nw_ok ts hc hW (s_ret (v_meth rfl (ts.ob o' hm) (noK _ _ rfl) (aE rfl (stretch_ok (ts.ob o' hm) (ts.en o' hm) (ti.ok o' hm) ti.tt.n (w6 ti hc) (Nat.le_trans hW (by decide)) fun ns h1 h2=>retS_ret (h ns h1 h2))))))))
theorem walked_badw (ti:TI σ q) (hw:Way q way) (hb:BadW σ q.w d) (h:X 97 σ):SS (k+5) 48 [.obj q.t,way,d] σ Φ X:=by
  refine ⟨rfl,(?_:vcSs _ _ p_Table_walked [some (.obj q.t),some way,some d,none] _ _)⟩
  have ts:=ti.s
  rcases hw with rfl | ⟨o,hn,ho⟩
  · exact s_ite (tE rfl (s_expr (v_meth rfl ts.tb (noT _ _ _ _ rfl) (aE rfl (nw_bad ts hb (xs h))))))
  · have e:isNone way=some false:=by
      cases way with
      | none=>rw [keptO] at ho; cases ho
      | _=>rfl
    refine s_ite (t_isn rfl e (cF (s_assign (v_meth rfl ts.tb (noT _ _ _ _ rfl) (aE rfl (keptof_ok ti hn (fun o' h' hm=>?_) fun z=>by rw [ho] at z; cases z))))))
    exact s_expr (v_meth rfl ts.tb (noT _ _ _ _ rfl) (aE rfl (nw_bad ts hb (xs h))))
theorem walked_bado (ti:TI σ q) (hn:nobs way=true) (hw:isNone way=some false) (ho:keptO q way=none) (h:X 109 σ):SS (k+5) 48 [.obj q.t,way,d] σ Φ X:=by
  refine ⟨rfl,(?_:vcSs _ _ p_Table_walked [some (.obj q.t),some way,some d,none] _ _)⟩
  exact s_ite (t_isn rfl hw (cF (s_assign (v_meth rfl ti.s.tb (noT _ _ _ _ rfl) (aE rfl (keptof_ok ti hn (fun o' h' hm=>by rw [ho] at h'; cases h') fun z=>xs h))))))
theorem askby_err {C:Addr} (ts:TS σ q) (h:∀ {Φ:D→Store→Prop} {X:Addr→Store→Prop},X C σ→SS (k+5) 48 [.obj q.t,way,d] σ Φ X) (hx:X C σ):SS (k+6) 50 [.obj q.t,way,d] σ Φ X:=by
  refine ⟨rfl,(?_:vcSs _ _ p_Table_ask_by [some (.obj q.t),some way,some d,none] _ _)⟩
  exact s_ret (v_bi (a_cons (v_compI (i_of (v_meth rfl ts.tb (noT _ _ _ _ rfl) (aE rfl (h (xs hx))))))))
theorem askby_ok (ti:TI σ q) (hT:q.T.length<64) (hw:Way q way) (hc:∀ t∈W,t.1<q.w) (hW:W.length≤20) (h:∀ d,Φ d σ):SS (k+6) 50 [.obj q.t,way,.list (W.map triD)] σ Φ X:=by
  refine ⟨rfl,(?_:vcSs _ _ p_Table_ask_by [some (.obj q.t),some way,some (.list (W.map triD)),none] _ _)⟩
  have ts:=ti.s
  refine s_ret (v_bi (a_cons (v_compI (i_of (v_meth rfl ts.tb (noT _ _ _ _ rfl) (aE rfl (walked_ok ti hw hc hW fun ns hm hl=>⟨_,rfl,lsE (Nat.le_trans hl ti.tt.n),compS_any D.int trivial ns [] (fun n hn K k0 k1=>?_) fun l' hs=>?_⟩)))))))
  · obtain ⟨x,hx,rfl⟩:=List.mem_map.mp (hm n hn)
    have hr:=ti.tt.r x hx
    exact ifs1 (t_call (a_cons (sub_there ts rfl rfl (row_mem ti.tt hx) (aE rfl (fits_ok (by rw [hr]; exact ti.tt.w6) (by rw [hr]; exact hc) fun b=>⟨fun _=>kT rfl (vE rfl k1),fun _=>kF rfl k0⟩)))))
  · have hl':l'.length<64:=Nat.lt_of_le_of_lt (Nat.le_trans hs.length_le hl) hT
    show biS .sorted false [.list _] σ _
    refine ⟨l',l'.mergeSort (fun a b=>decide (a≤b)),rfl,rfl,small_ok (by omega),.inl hl',List.mergeSort_perm _ _,?_,retS_ret (h _)⟩
    exact (List.pairwise_mergeSort (le:=fun a b:Int=>decide (a≤b)) (fun a b c h1 h2=>decide_eq_true (Int.le_trans (of_decide_eq_true h1) (of_decide_eq_true h2))) (fun a b=>by simpa using Int.le_total a b) l').imp fun h=>of_decide_eq_true h
theorem costs_bad (ts:TS σ q) (hb:BadW σ q.w d) (h:X 97 σ):SS (k+6) 47 [.obj q.t,d] σ Φ X:=by
  refine ⟨rfl,(?_:vcSs _ _ p_Table_costs [some (.obj q.t),some d,none,none] _ _)⟩
  exact s_expr (v_meth rfl ts.tb (noT _ _ _ _ rfl) (aE rfl (nw_bad ts hb (xs h))))
theorem plan_bad (ts:TS σ q) (hb:BadW σ q.w d) (h:X 97 σ):SS (k+7) 51 [.obj q.t,d] σ Φ X:=by
  refine ⟨rfl,(?_:vcSs _ _ p_Table_plan [some (.obj q.t),some d,none,none,none] _ _)⟩
  exact s_assign (v_meth rfl ts.tb (noT _ _ _ _ rfl) (aE rfl (costs_bad ts hb (xs h))))
theorem ask_bad (ts:TS σ q) (hb:BadW σ q.w d) (h:X 97 σ):SS (k+8) 58 [.obj q.t,d] σ Φ X:=by
  refine ⟨rfl,(?_:vcSs _ _ p_Table_ask [some (.obj q.t),some d] _ _)⟩
  exact s_ret (v_meth rfl ts.tb (noT _ _ _ _ rfl) (a_cons (v_sub (v_meth rfl ts.tb (noT _ _ _ _ rfl) (aE rfl (plan_bad ts hb (xs h)))))))
theorem ask_ok (ti:TI σ q) (hT:q.T.length<64) (hc:∀ t∈W,t.1<q.w) (hW:W.length≤20) (h:∀ d,Φ d σ):SS (k+8) 58 [.obj q.t,.list (W.map triD)] σ Φ X:=by
  refine ⟨rfl,(?_:vcSs _ _ p_Table_ask [some (.obj q.t),some (.list (W.map triD))] _ _)⟩
  have ts:=ti.s
  exact s_ret (v_meth rfl ts.tb (noT _ _ _ _ rfl) (a_cons (v_sub (v_meth rfl ts.tb (noT _ _ _ _ rfl) (aE rfl (plan_ok ti hc hW fun p hp=>vE rfl (sb_ok rfl (aE rfl (askby_ok ti hT hp hc hW fun d=>retS_ret (h d))))))))))
end
noncomputable def atF (ns:List Int) (k:Nat):Int:=ns.getD k 0
theorem shs {x:Str} (h:PyData.strOk x=true):SeqAt.shaped (.str x)=true:=by
  show (PyData.canLay0 (.str x)&&decide (PyData.depth (.str x)≤64))=true
  rw [PyData.canLay0,h,PyData.depth]; rfl
theorem eqv_str (a b:Str):PyData.eqv (.str a) (.str b)=decide (a=b):=by
  rw [Bool.eq_iff_iff]; simp [PyData.eqv]
theorem strE {σ:Store} {Ψ:D→Store→Prop} {a b:Str} (ha:PyData.strOk a=true) (hb:PyData.strOk b=true) (h:Ψ (.bool (decide (a=b))) σ):cmpS .Eq (.str a) (.str b) σ Ψ:=
  ⟨_,_,rfl,rfl,shs ha,shs hb,by rw [eqv_str]; exact h⟩
theorem strN {σ:Store} {Ψ:D→Store→Prop} {a b:Str} (ha:PyData.strOk a=true) (hb:PyData.strOk b=true) (h:Ψ (.bool (!decide (a=b))) σ):cmpS .NotEq (.str a) (.str b) σ Ψ:=
  ⟨_,_,rfl,rfl,shs ha,shs hb,by rw [eqv_str]; exact h⟩
theorem v_intb {S:Nat→Spec} {X:Exs} {ρ:PEnv} {σ:Store} {Ψ:D→Store→Prop} {e:PE} {g:Nat} {gp p:Pos} (h:(vc S X e).v ρ σ fun d σ'=>truthS d σ' fun b σ''=>Ψ (.int (if b then 1 else 0)) σ''):(vc S X (.intb e g gp p)).v ρ σ Ψ:=h
noncomputable def wds:List (Nat×Str):=[(37, "bad width"),(49, "bad row"),(61, "full"),(109, "bad order"),(97, "bad wish"),(73, "no row"),(85, "bad column")]
theorem wds_ok:∀ x∈wds,PyData.strOk x.2=true:=by decide +kernel
theorem wds_ne:∀ x∈wds,decide (x.2 = "given")=false:=by decide +kernel
theorem giv_ok:PyData.strOk "given" = true:=by decide +kernel
theorem isx_ok {S:Nat→Spec} {Y:Addr→Store→Prop} {C:Nat} {ρ:PEnv} {σ:Store} {Ψ:D→Store→Prop} {i g gt:Nat} {cs os:List Nat} {ip gp tp p:Pos} (hc:(cs.contains C || os.contains C)=true) (h:Ψ (.bool (cs.contains C)) σ):(vc S ⟨Y,some C⟩ (.isx i ip cs os g gp gt tp p)).v ρ σ Ψ:=by
  show (if cs.contains C then Ψ (.bool true) σ else os.contains C=true∧Ψ (.bool false) σ)
  cases e:cs.contains C with
  | true=>rw [e] at h; exact h
  | false=>rw [e] at h hc; exact ⟨hc,h⟩
section
variable {k:Nat} {σ:Store} {Φ:D→Store→Prop} {X:Addr→Store→Prop} {o:O} {w:Nat} {T:Tab} {W:List Tri} {q:Q} {d way:D}
theorem at_ok {ns:List Int} {j:Nat} (hl:ns.length≤1000) (h:Φ (.int (atF ns j)) σ):SS (k+1) 72 [.list (ns.map D.int),.int j] σ Φ X:=by
  refine ⟨rfl,(?_:vcSs _ _ p_law_at [some (.list (ns.map D.int)),some (.int j)] _ _)⟩
  refine s_ite (t_cmp (v_var rfl (v_len rfl rfl (lsm hl) (cnd (fun e=>?_) fun e=>?_))))
  · rw [List.length_map] at e
    have e:j<ns.length:=Int.ofNat_lt.mp (of_decide_eq_true e)
    refine s_ret (v_sub2 rfl rfl rfl (lsm hl) (get_map_int e) (retS_ret ?_))
    rw [atF,List.getD_eq_getElem?_getD,List.getElem?_eq_getElem e] at h; exact h
  · rw [List.length_map] at e
    have e:ns.length≤j:=Nat.not_lt.mp fun z=>of_decide_eq_false e (Int.ofNat_lt.mpr z)
    rw [atF,List.getD_eq_getElem?_getD,List.getElem?_eq_none e] at h
    exact s_ret (vE rfl (retS_ret h))
noncomputable abbrev fin (Φ:D→Store→Prop):D→Store→Prop:=fun _ σ'=>retS Φ (.next [] σ')
theorem act0 (h:newS 387 (SS (k+8) 52) [d] σ (fin Φ) (retX X)):SS (k+9) 61 [.obj q.t,.int 0,d,way] σ Φ X:=by
  refine ⟨rfl,(?_:vcSs _ _ p_law_act [some (.obj q.t),some (.int 0),some d,some way] _ _)⟩
  exact s_ite (tE rfl (cT (s_expr (v_new (aE rfl h)))))
theorem act1 (ts:TS σ q) (h:SS (k+8) 54 [.obj q.t,d] σ (fin Φ) (retX X)):SS (k+9) 61 [.obj q.t,.int 1,d,way] σ Φ X:=by
  refine ⟨rfl,(?_:vcSs _ _ p_law_act [some (.obj q.t),some (.int 1),some d,some way] _ _)⟩
  exact s_ite (tE rfl (cF (s_ite (tE rfl (cT (s_expr (v_meth rfl ts.tb (noT _ _ _ _ rfl) (aE rfl h))))))))
theorem act2 (ts:TS σ q) (h:SS (k+8) 55 [.obj q.t,d] σ (fin Φ) (retX X)):SS (k+9) 61 [.obj q.t,.int 2,d,way] σ Φ X:=by
  refine ⟨rfl,(?_:vcSs _ _ p_law_act [some (.obj q.t),some (.int 2),some d,some way] _ _)⟩
  exact s_ite (tE rfl (cF (s_ite (tE rfl (cF (s_ite (tE rfl (cT (s_expr (v_meth rfl ts.tb (noT _ _ _ _ rfl) (aE rfl h)))))))))))
theorem act3 (ts:TS σ q) (h:SS (k+8) 56 [.obj q.t,d] σ (fin Φ) (retX X)):SS (k+9) 61 [.obj q.t,.int 3,d,way] σ Φ X:=by
  refine ⟨rfl,(?_:vcSs _ _ p_law_act [some (.obj q.t),some (.int 3),some d,some way] _ _)⟩
  exact s_ite (tE rfl (cF (s_ite (tE rfl (cF (s_ite (tE rfl (cF (s_ite (tE rfl (cT (s_expr (v_meth rfl ts.tb (noT _ _ _ _ rfl) (aE rfl h))))))))))))))
theorem act4 (ts:TS σ q) (h:SS (k+8) 57 [.obj q.t,d] σ (fin Φ) (retX X)):SS (k+9) 61 [.obj q.t,.int 4,d,way] σ Φ X:=by
  refine ⟨rfl,(?_:vcSs _ _ p_law_act [some (.obj q.t),some (.int 4),some d,some way] _ _)⟩
  exact s_ite (tE rfl (cF (s_ite (tE rfl (cF (s_ite (tE rfl (cF (s_ite (tE rfl (cF (s_ite (tE rfl (cT (s_expr (v_meth rfl ts.tb (noT _ _ _ _ rfl) (aE rfl h)))))))))))))))))
theorem act5 (ts:TS σ q) (h:SS (k+8) 47 [.obj q.t,d] σ (fin Φ) (retX X)):SS (k+9) 61 [.obj q.t,.int 5,d,way] σ Φ X:=by
  refine ⟨rfl,(?_:vcSs _ _ p_law_act [some (.obj q.t),some (.int 5),some d,some way] _ _)⟩
  exact s_ite (tE rfl (cF (s_ite (tE rfl (cF (s_ite (tE rfl (cF (s_ite (tE rfl (cF (s_ite (tE rfl (cF (s_ite (tE rfl (cT (s_expr (v_meth rfl ts.tb (noT _ _ _ _ rfl) (aE rfl h))))))))))))))))))))
theorem act6 (ts:TS σ q) (h:SS (k+8) 51 [.obj q.t,d] σ (fin Φ) (retX X)):SS (k+9) 61 [.obj q.t,.int 6,d,way] σ Φ X:=by
  refine ⟨rfl,(?_:vcSs _ _ p_law_act [some (.obj q.t),some (.int 6),some d,some way] _ _)⟩
  exact s_ite (tE rfl (cF (s_ite (tE rfl (cF (s_ite (tE rfl (cF (s_ite (tE rfl (cF (s_ite (tE rfl (cF (s_ite (tE rfl (cF (s_ite (tE rfl (cT (s_expr (v_meth rfl ts.tb (noT _ _ _ _ rfl) (aE rfl h)))))))))))))))))))))))
theorem act7 (ts:TS σ q) (h:SS (k+8) 58 [.obj q.t,d] σ (fin Φ) (retX X)):SS (k+9) 61 [.obj q.t,.int 7,d,way] σ Φ X:=by
  refine ⟨rfl,(?_:vcSs _ _ p_law_act [some (.obj q.t),some (.int 7),some d,some way] _ _)⟩
  exact s_ite (tE rfl (cF (s_ite (tE rfl (cF (s_ite (tE rfl (cF (s_ite (tE rfl (cF (s_ite (tE rfl (cF (s_ite (tE rfl (cF (s_ite (tE rfl (cF (s_ite (tE rfl (cT (s_expr (v_meth rfl ts.tb (noT _ _ _ _ rfl) (aE rfl h))))))))))))))))))))))))))
theorem act8 (ts:TS σ q) (h:SS (k+8) 48 [.obj q.t,way,d] σ (fin Φ) (retX X)):SS (k+9) 61 [.obj q.t,.int 8,d,way] σ Φ X:=by
  refine ⟨rfl,(?_:vcSs _ _ p_law_act [some (.obj q.t),some (.int 8),some d,some way] _ _)⟩
  exact s_ite (tE rfl (cF (s_ite (tE rfl (cF (s_ite (tE rfl (cF (s_ite (tE rfl (cF (s_ite (tE rfl (cF (s_ite (tE rfl (cF (s_ite (tE rfl (cF (s_ite (tE rfl (cF (s_ite (tE rfl (cT (s_expr (v_meth rfl ts.tb (noT _ _ _ _ rfl) (aE rfl h)))))))))))))))))))))))))))))
theorem act9 (ts:TS σ q) (h:SS (k+8) 50 [.obj q.t,way,d] σ (fin Φ) (retX X)):SS (k+9) 61 [.obj q.t,.int 9,d,way] σ Φ X:=by
  refine ⟨rfl,(?_:vcSs _ _ p_law_act [some (.obj q.t),some (.int 9),some d,some way] _ _)⟩
  exact s_ite (tE rfl (cF (s_ite (tE rfl (cF (s_ite (tE rfl (cF (s_ite (tE rfl (cF (s_ite (tE rfl (cF (s_ite (tE rfl (cF (s_ite (tE rfl (cF (s_ite (tE rfl (cF (s_ite (tE rfl (cF (s_ite (tE rfl (cT (s_expr (v_meth rfl ts.tb (noT _ _ _ _ rfl) (aE rfl h))))))))))))))))))))))))))))))))
theorem act10 {a b c:D} (ts:TS σ q) (h:SS (k+8) 59 [.obj q.t,a,b,c] σ (fin Φ) (retX X)):SS (k+9) 61 [.obj q.t,.int 10,.tuple [a,b,c],way] σ Φ X:=by
  refine ⟨rfl,(?_:vcSs _ _ p_law_act [some (.obj q.t),some (.int 10),some (.tuple [a,b,c]),some way] _ _)⟩
  exact s_ite (tE rfl (cF (s_ite (tE rfl (cF (s_ite (tE rfl (cF (s_ite (tE rfl (cF (s_ite (tE rfl (cF (s_ite (tE rfl (cF (s_ite (tE rfl (cF (s_ite (tE rfl (cF (s_ite (tE rfl (cF (s_ite (tE rfl (cF (s_ite (tE rfl (cT (s_expr (v_meth rfl ts.tb (noT _ _ _ _ rfl) (aE rfl h)))))))))))))))))))))))))))))))))))
theorem act11 {a b c:D} (ts:TS σ q) (h:SS (k+8) 60 [.obj q.t,a] σ (fin Φ) (retX X)):SS (k+9) 61 [.obj q.t,.int 11,.tuple [a,b,c],way] σ Φ X:=by
  refine ⟨rfl,(?_:vcSs _ _ p_law_act [some (.obj q.t),some (.int 11),some (.tuple [a,b,c]),some way] _ _)⟩
  exact s_ite (tE rfl (cF (s_ite (tE rfl (cF (s_ite (tE rfl (cF (s_ite (tE rfl (cF (s_ite (tE rfl (cF (s_ite (tE rfl (cF (s_ite (tE rfl (cF (s_ite (tE rfl (cF (s_ite (tE rfl (cF (s_ite (tE rfl (cF (s_ite (tE rfl (cF (s_expr (v_meth rfl ts.tb (noT _ _ _ _ rfl) (aE rfl h)))))))))))))))))))))))))))))))))))
end
theorem addI {σ:Store} {Ψ:D→Store→Prop} {x y:Int} (h:Ψ (.int (x+y)) σ):binS .Add (.int x) (.int y) σ Ψ:=h
theorem isxI {S:Nat→Spec} {Y:Addr→Store→Prop} {C:Nat} {ρ:PEnv} {σ:Store} {Ψ:D→Store→Prop} {i g gt g':Nat} {cs os:List Nat} {ip gp tp p gp' p':Pos} (hc:(cs.contains C || os.contains C)=true) (h:Ψ (.int (if cs.contains C then 1 else 0)) σ):(vc S ⟨Y,some C⟩ (.intb (.isx i ip cs os g gp gt tp p) g' gp' p')).v ρ σ Ψ:=
  v_intb (isx_ok hc h)
theorem h_hit {S:Nat→Spec} {X:Exs} {cs os:List Nat} {g:Nat} {gp p:Pos} {b:List PS} {r:List HD} {ρ:PEnv} {Φ:Res→Prop} {C:Addr} {σ:Store} (hc:cs.contains C=true) (h:vcSs S noX b ρ σ Φ):vcHs S X (.mk cs os g gp b p::r) ρ Φ C σ:=by
  show (if _ then _ else _)
  rw [if_pos hc]; exact h
theorem h_miss {S:Nat→Spec} {X:Exs} {cs os:List Nat} {g:Nat} {gp p:Pos} {b:List PS} {r:List HD} {ρ:PEnv} {Φ:Res→Prop} {C:Addr} {σ:Store} (hc:cs.contains C=false) (ho:os.contains C=true) (h:vcHs S X r ρ Φ C σ):vcHs S X (.mk cs os g gp b p::r) ρ Φ C σ:=by
  show (if _ then _ else _)
  rw [if_neg (by rw [hc]; exact Bool.false_ne_true)]; exact ⟨ho,h⟩
section
variable {k:Nat} {σ:Store} {Φ:D→Store→Prop} {X:Addr→Store→Prop} {o:O} {w:Nat} {T:Tab} {W:List Tri} {q:Q} {d way a b c:D} {R:Store→Prop}
noncomputable def Done (k:Nat) (a b c d:D) (σ:Store) (R:Store→Prop):Prop:=∀ {Φ:D→Store→Prop} {X:Addr→Store→Prop},(∀ σ',R σ'→Φ .none σ')→SS k 61 [a,b,c,d] σ Φ X
noncomputable def Fails (k:Nat) (a b c d:D) (σ:Store) (C:Nat):Prop:=∀ {Φ:D→Store→Prop} {X:Addr→Store→Prop},X C σ→SS k 61 [a,b,c,d] σ Φ X
theorem said_done (h:Done (k+9) a b c d σ R) (hΦ:∀ σ',R σ'→Φ (.str "given") σ'):SS (k+10) 66 [a,b,c,d] σ Φ X:=by
  refine ⟨rfl,(?_:vcSs _ _ p_law_said [some a,some b,some c,some d] _ _)⟩
  exact s_try (s_expr (v_call (aE rfl (h fun σ' hR=>s_nil (s_ret (vE rfl (retS_ret (hΦ σ' hR))))))))
theorem said_fails {C:Nat} {s:Str} (hC:(C,s)∈wds) (h:Fails (k+9) a b c d σ C) (hΦ:Φ (.str s) σ):SS (k+10) 66 [a,b,c,d] σ Φ X:=by
  refine ⟨rfl,(?_:vcSs _ _ p_law_said [some a,some b,some c,some d] _ _)⟩
  refine s_try (s_expr (v_call (aE rfl (h ?_))))
  have hΦ:=retS_ret hΦ
  clear h
  show vcHs (SS (k+9)) _ _ _ _ C σ
  simp only [wds,List.mem_cons,List.not_mem_nil,or_false,Prod.mk.injEq] at hC
  rcases hC with ⟨rfl,rfl⟩ | ⟨rfl,rfl⟩ | ⟨rfl,rfl⟩ | ⟨rfl,rfl⟩ | ⟨rfl,rfl⟩ | ⟨rfl,rfl⟩ | ⟨rfl,rfl⟩
  · exact h_hit rfl (s_ret (vE rfl hΦ))
  · exact h_miss rfl rfl (h_hit rfl (s_ret (vE rfl hΦ)))
  · exact h_miss rfl rfl (h_miss rfl rfl (h_hit rfl (s_ret (vE rfl hΦ))))
  · exact h_miss rfl rfl (h_miss rfl rfl (h_miss rfl rfl (h_hit rfl (s_ret (vE rfl hΦ)))))
  · exact h_miss rfl rfl (h_miss rfl rfl (h_miss rfl rfl (h_miss rfl rfl (h_hit rfl (s_ret (vE rfl hΦ))))))
  · exact h_miss rfl rfl (h_miss rfl rfl (h_miss rfl rfl (h_miss rfl rfl (h_miss rfl rfl (h_hit rfl (s_ret (vE rfl hΦ)))))))
  · exact h_miss rfl rfl (h_miss rfl rfl (h_miss rfl rfl (h_miss rfl rfl (h_miss rfl rfl (h_miss rfl rfl (h_hit rfl (s_ret (vE rfl hΦ))))))))
theorem any_fails {C:Nat} {s:Str} (hC:(C,s)∈wds) (h:Fails (k+9) a b c d σ C) (hΦ:Φ (.bool true) σ):SS (k+10) 67 [a,b,c,d] σ Φ X:=by
  refine ⟨rfl,(?_:vcSs _ _ p_law_any [some a,some b,some c,some d,none,none] _ _)⟩
  refine s_try (s_expr (v_call (aE rfl (h ?_))))
  have hΦ:=retS_ret hΦ
  clear h
  have z:∀ x∈wds,x.1∈([37,49,61,73,85,97,109]:List Nat):=by decide
  have hC':C∈([37,49,61,73,85,97,109]:List Nat):=z _ hC
  have e7:([37,49,61,73,85,97,109]:List Nat).contains C=true:=List.contains_iff_mem.mpr hC'
  show (if ([37,49,61,73,85,97,109]:List Nat).contains C then _ else _)
  rw [if_pos e7]
  have one:∀ cs os:List Nat,(∀ x∈([37,49,61,73,85,97,109]:List Nat),(cs.contains x || os.contains x)=true)→(cs.contains C || os.contains C)=true:=fun cs os h=>h C hC'
  refine ⟨rfl,rfl,?_⟩
  refine s_assign (v_bin (v_bin (isxI (one _ _ (by decide)) (isxI (one _ _ (by decide)) (addI (isxI (one _ _ (by decide)) (addI ?_)))))))
  refine s_assign (v_bin (v_bin (v_bin (v_var rfl (isxI (one _ _ (by decide)) (addI (isxI (one _ _ (by decide)) (addI (isxI (one _ _ (by decide)) (addI ?_))))))))))
  refine s_ret (v_andc (b:=true) (fun {Ψ} q=>isx_ok (by rw [e7]; rfl) (by rw [e7]; exact q)) nofun fun _=>v_bop1 (v_cmp (v_bin (v_var rfl (isxI (one _ _ (by decide)) (addI (vE rfl ?_)))))))
  have z:∀ C∈([37,49,61,73,85,97,109]:List Nat),decide (((if ([37]:List Nat).contains C then (1:Int) else 0)+(if ([49]:List Nat).contains C then 1 else 0)+(if ([61]:List Nat).contains C then 1 else 0)+(if ([109]:List Nat).contains C then 1 else 0)+(if ([97]:List Nat).contains C then 1 else 0)+(if ([73]:List Nat).contains C then 1 else 0)+(if ([85]:List Nat).contains C then 1 else 0))=1)=true:=by decide
  show retS Φ (.ret (.bool (decide _)) σ)
  rw [z C hC']
  exact hΦ
noncomputable def keptD (q:Q) (o:O):D:=numsO ((keptO q (dN o.cols)).getD o)
noncomputable def stD (q:Q):D := .list [dI (q.T.map (·.1)),.list (q.T.map fun x=>tI x.2),.list (q.os.map fun o=>dN o.cols),.list (q.os.map (keptD q))]
theorem state_ok (ti:TI σ q) (h:Φ (stD q) σ):SS (k+6) 65 [.obj q.t] σ Φ X:=by
  refine ⟨rfl,(?_:vcSs _ _ p_law_state [some (.obj q.t),none,none,none,none] _ _)⟩
  have ts:=ti.s
  have tt:=ti.tt
  refine s_assign (v_meth rfl ts.tb (noT _ _ _ _ rfl) (a_nil (numbers_ok ts tt ?_)))
  refine s_assign (v_comp0 (l:=q.T) (g:=fun x => .int x.1) (f:=fun x=>tI x.2) (d:=dI (q.T.map (·.1))) (i_var rfl (by show some _=some _; rw [List.map_map]; rfl)) trivial (Nat.le_trans tt.n (by decide)) (fun x hx K hK=>v_meth rfl ts.tb (noT _ _ _ _ rfl) (aE rfl (row_ok ts tt hx hK))) ?_)
  refine s_ret (v_list (a_var rfl (a_var rfl (a_cons (v_meth rfl ts.tb (noT _ _ _ _ rfl) (a_nil (orders_ok ts ti.ol ?_)))))))
  refine a_cons (v_comp0 (l:=q.os) (g:=fun o=>dN o.cols) (f:=keptD q) (d := .list (q.os.map fun o=>dN o.cols)) (fun {K} hK=>i_of (v_meth rfl ts.tb (noT _ _ _ _ rfl) (a_nil (orders_ok ts ti.ol ⟨_,rfl,hK⟩)))) trivial (Nat.le_trans ti.ol (by decide)) (fun o ho K hK=>v_meth rfl ts.tb (noT _ _ _ _ rfl) (aE rfl (listed_ok ti (nobs_dN (ti.ok o ho).cl) (fun o' h'=>?_) fun z=>?_))) (a_nil ⟨rfl,retS_ret h⟩))
  · rw [keptD,h'] at hK; exact hK
  · obtain e | ⟨o',_,e⟩:=way_o ti ho
    · cases e
    · rw [z] at e; cases e
end
theorem pl_tI (xs:List Int) (n:Nat):pl (n+1) (tI xs):=by
  intro x hx
  obtain ⟨i,_,rfl⟩:=List.mem_map.mp hx
  cases n <;> exact trivial
theorem pl_st (q:Q):pl 20 (stD q):=by
  intro x hx
  simp only [List.mem_cons,List.not_mem_nil,or_false] at hx
  rcases hx with rfl | rfl | rfl | rfl
  · exact pl_ints _
  · exact pl_list _ _ fun x _=>pl_tI _ _
  · exact pl_list _ _ fun x _=>pl_dN _ _
  · exact pl_list _ _ fun x _=>pl_ints _
theorem subM {σ:Store} {Ψ:D→Store→Prop} {xs:List D} {i:Int} (hl:xs.length≤100) (h0:0≤i) (h1:i<xs.length) (h:∀ j (hj:j<xs.length),i=j→Ψ xs[j] σ):subS (.list xs) (.int i) σ Ψ:=
  ⟨xs,rfl,small_ok (Nat.le_trans hl (by decide)),.inl ⟨h0,_,List.getElem?_eq_getElem (tn h0 h1),h i.toNat (tn h0 h1) (Int.toNat_of_nonneg h0).symm⟩⟩
noncomputable def AtP (P:Int→D→Prop):Nat→List D→Prop
  | _,[]=>True
  | n,x::r=>P n x∧AtP P (n+1) r
theorem atP {P:Int→D→Prop}:∀ {xs:List D} {n:Nat},AtP P n xs→∀ j (hj:j<xs.length),P (n+j:Nat) xs[j]
  | _::_,_,h,0,_=>h.1
  | _::_,n,h,j+1,hj=>Nat.succ_add_eq_add_succ n j▸atP h.2 j (Nat.lt_of_succ_lt_succ hj)
theorem subP {σ:Store} {Ψ:D→Store→Prop} {xs:List D} {i:Int} (P:Int→D→Prop) (hl:Nat.ble xs.length 100=true) (h0:0≤i) (h1:i<xs.length) (hp:AtP P 0 xs) (h:∀ d,P i d→Ψ d σ):subS (.list xs) (.int i) σ Ψ:=
  subM (Nat.le_of_ble_eq_true hl) h0 h1 fun j hj e=>h _ (by have z:=atP hp j hj; rw [Nat.zero_add] at z; rw [e]; exact z)
theorem subQ {σ:Store} {Ψ:D→Store→Prop} {xs:List D} {i:Int} (hl:Nat.ble xs.length 100=true) (h0:0≤i) (h1:i<xs.length) (hp:AtP (fun _ d=>Ψ d σ) 0 xs):subS (.list xs) (.int i) σ Ψ:=subP _ hl h0 h1 hp fun _ z=>z
theorem modI {σ:Store} {Ψ:D→Store→Prop} {x y:Int} (hy:0<y) (h:Ψ (.int (x%y)) σ):binS .Mod (.int x) (.int y) σ Ψ:=⟨hy,h⟩
theorem ret_sub' {Φ:D→Store→Prop} {σ σ':Store} {d:D} (hs:Sub σ σ') (h:Φ d σ):retS Φ (.ret d σ'):=⟨d,σ,⟨hs,.inl rfl⟩,h⟩
theorem ret_frz' {Φ:D→Store→Prop} {σ σ':Store} {a:Addr} {xs:List D} (hs:Sub σ σ') (hn:σ a=none) (ha:σ' a=some (.mlist xs)) (h:Φ (.list xs) σ):retS Φ (.ret (.obj a) σ'):=⟨_,σ,⟨hs,.inr ⟨a,xs,rfl,ha,rfl,hn⟩⟩,h⟩
theorem p30 {S:Nat→Spec} {X:Exs} {ρ:PEnv} {σ:Store} {Ψ:D→Store→Prop} {p p1 p2:Pos} (h:Ψ (.int (10 ^ 30)) σ):(vc S X (.bin .Pow (.cint 10 p1) (.cint 30 p2) p)).v ρ σ Ψ:=
  v_bin (vE rfl (vE rfl ⟨⟨by decide,by decide +kernel⟩,h⟩))
section
variable {k:Nat} {σ:Store} {Φ:D→Store→Prop} {X:Addr→Store→Prop} {o:O} {w:Nat} {T:Tab} {W:List Tri} {q:Q} {d way a b c:D} {R:Store→Prop}
theorem holds_done (ti:TI σ q) (h:Done (k+9) (.obj q.t) b c d σ R) (hΦ:∀ σ',R σ'→Φ (.bool true) σ'):SS (k+11) 68 [.obj q.t,b,c,d,.str "given"] σ Φ X:=by
  refine ⟨rfl,(?_:vcSs _ _ p_law_holds [some (.obj q.t),some b,some c,some d,some (.str "given"),none] _ _)⟩
  refine s_assign (v_call (aE rfl (state_ok ti (s_ite (t_cmp (v_call (aE rfl (said_done h fun σ' hR=>v_var rfl (strN giv_ok giv_ok ?_)))))))))
  rw [decide_eq_true rfl]
  show vcSs (SS (k+10)) ⟨retX X,none⟩ (p_law_holds.drop 2) _ σ' (retS Φ)
  refine s_ite (t_cmp (v_var rfl (vE rfl (strE giv_ok giv_ok ?_))))
  rw [decide_eq_true rfl]
  exact retS_ret (hΦ σ' hR)
theorem holds_fails {C:Nat} {s:Str} (ti:TI σ q) (hC:(C,s)∈wds) (h:Fails (k+9) (.obj q.t) b c d σ C) (hΦ:Φ (.bool true) σ):SS (k+11) 68 [.obj q.t,b,c,d,.str s] σ Φ X:=by
  refine ⟨rfl,(?_:vcSs _ _ p_law_holds [some (.obj q.t),some b,some c,some d,some (.str s),none] _ _)⟩
  have so:=wds_ok _ hC
  refine s_assign (v_call (aE rfl (state_ok ti (s_ite (t_cmp (v_call (aE rfl (said_fails hC h (v_var rfl (strN so so ?_))))))))))
  rw [decide_eq_true rfl]
  show vcSs (SS (k+10)) ⟨retX X,none⟩ (p_law_holds.drop 2) _ σ (retS Φ)
  refine s_ite (t_cmp (v_var rfl (vE rfl (strE so giv_ok ?_))))
  rw [wds_ne _ hC]
  show vcSs (SS (k+10)) ⟨retX X,none⟩ (p_law_holds.drop 3) _ σ (retS Φ)
  refine (s_ret (v_andc (b:=true) (fun q=>v_call (aE rfl (any_fails hC h q))) nofun fun _=>v_bop1 (v_cmp (v_call (aE rfl (state_ok ti (v_var rfl ?_)))))))
  exact eqS_same (Φ:=fun d σ'=>retS Φ (.ret d σ')) (pl_st q) (retS_ret hΦ)
theorem width_ok {cell:Int} (h1:cell%8=7→∀ w:Nat,1≤w→w≤6→Φ (.int w) σ) (h0:cell%8≠7→∀ d,nob d=true→isWid d=false→Φ d σ):SS (k+1) 75 [.int cell] σ Φ X:=by
  refine ⟨rfl,(?_:vcSs _ _ p_law_width [some (.int cell),none] _ _)⟩
  refine s_assign (v_bin (vE rfl (p30 (modI (by decide +kernel) ?_))))
  have n0:(0:Int)≤cell / 8%10 ^ 30:=Int.emod_nonneg _ (by decide +kernel)
  generalize cell / 8%10 ^ 30=n at n0
  refine s_ret (v_sub (vE rfl (vE rfl (subP (fun i d=>(i≠7→nob d=true∧isWid d=false)∧(i=7→∃ w:Nat,d = .int w∧1≤w∧w≤6)) rfl (em0 _ (by decide)) (em1 _ (by decide)) ?_ ?_))))
  · refine ⟨no rfl rfl (by decide),no rfl rfl (by decide),no rfl (w0 (.inl (Int.le_trans (Int.sub_le_self _ n0) (by decide)))) (by decide),no rfl (w0 (.inr (Int.le_add_of_nonneg_right n0))) (by decide),no rfl rfl (by decide),no rfl rfl (by decide),no rfl rfl (by decide),⟨fun h=>absurd rfl h,fun _=>?_⟩,trivial⟩
    obtain ⟨m,e⟩:=Int.eq_ofNat_of_zero_le (em0 n (by decide:(0:Int)<6))
    have l:=em1 n (by decide:(0:Int)<6)
    rw [e] at l
    exact ⟨1+m,congrArg (fun z=>D.int (1+z)) e,Nat.le_add_right _ _,Nat.add_le_add_left (Nat.le_of_lt_succ (Int.ofNat_lt.mp l)) 1⟩
  · intro d p
    by_cases z:cell%8=7
    · obtain ⟨w,e,a,b⟩:=p.2 z
      rw [e]; exact retS_ret (h1 z w a b)
    · exact retS_ret (h0 z d (p.1 z).1 (p.1 z).2)
where
  no {i:Int} {d:D} {Q:Prop} (a:nob d=true) (b:isWid d=false) (c:i≠7):(i≠7→nob d=true∧isWid d=false)∧(i=7→Q):=⟨fun _=>⟨a,b⟩,fun h=>absurd h c⟩
  w0 {i:Int} (hi:i≤0∨7≤i):isWid (.int i)=false:=by
    rcases hi with hi | hi
    · show (decide (1≤i)&&_)=false
      rw [decide_eq_false (fun z=>absurd (Int.le_trans z hi) (by decide))]; rfl
    · show (_&&decide (i≤6))=false
      rw [decide_eq_false (p:=i≤6) (fun z=>absurd (Int.le_trans hi z) (by decide)),Bool.and_false]
end
section
variable {k:Nat} {σ σ':Store} {Φ:D→Store→Prop} {X:Addr→Store→Prop} {w:Nat} {d a r s c:D} {R:Store→Prop} {cell place f:Int} {xs:List D}
noncomputable abbrev envR (cell place:Int) (w:Nat) (r s:D) (f:Int):PEnv:=[some (.int cell),some (.int place),some (.int w),some r,some s,some (.int f),none]
theorem rowEnd (hr:asL σ' r=some xs) (hl:xs.length≤100) (ht:retS Φ (.ret (.tuple xs) σ')) (hq:retS Φ (.ret r σ')):vcSs (SS k) ⟨retX X,none⟩ (p_law_row.drop 8) (envR cell place w r s f) σ' (retS Φ):=
  s_ite (tE rfl (cnd (fun _=>s_ret (v_bi (a_var rfl (a_nil ⟨xs,hr,small_ok (Nat.le_trans hl (by decide)),ht⟩)))) fun _=>s_ret (v_var rfl hq)))
theorem rowM6 (h6:f≠6) (h7:f=7→place / 6%2≠1) (h:vcSs (SS k) ⟨retX X,none⟩ (p_law_row.drop 8) (envR cell place w r s f) σ' (retS Φ)):vcSs (SS k) ⟨retX X,none⟩ (p_law_row.drop 6) (envR cell place w r s f) σ' (retS Φ):=
  s_ite (tE rfl (cnd (fun e=>absurd (of_decide_eq_true e) h6) fun _=>s_ite (tE rfl (cnd (fun e=>absurd (of_decide_eq_true (Bool.and_eq_true_iff.mp e).2) (h7 (of_decide_eq_true (Bool.and_eq_true_iff.mp e).1))) fun _=>h))))
theorem rowM4 (h4:f≠4) (h5:f≠5) (h:vcSs (SS k) ⟨retX X,none⟩ (p_law_row.drop 6) (envR cell place w r s f) σ' (retS Φ)):vcSs (SS k) ⟨retX X,none⟩ (p_law_row.drop 4) (envR cell place w r s f) σ' (retS Φ):=
  s_ite (tE rfl (cnd (fun e=>absurd (of_decide_eq_true e) h4) fun _=>s_ite (tE rfl (cnd (fun e=>absurd (of_decide_eq_true e) h5) fun _=>h))))
theorem slc_len:(sliceD xs none (some (-1))).length=xs.length - 1:=by
  show ((xs.drop 0).take (clipAt xs.length (-1) - 0)).length=_
  rw [List.length_take,List.length_drop]
  have e:clipAt xs.length (-1)=xs.length - 1:=by
    generalize xs.length=n
    cases n with
    | zero=>rfl
    | succ n=>
      unfold clipAt
      rw [if_pos (by decide),show (-1:Int)+((n+1:Nat):Int)=n by omega,Int.min_eq_left (by omega),Int.max_eq_right (by omega)]; rfl
  rw [e]
  exact Nat.min_eq_left (a:=xs.length - 1) (b:=xs.length) (Nat.sub_le _ _)
theorem nG {f p:Int} (h8:f≠8) (h7:f≠7):¬ (f=8∨(f=7∧p=0)):=fun h=>h.elim h8 fun h=>h7 h.1
theorem hg_of {f p:Int} (f4:¬ f<4) (f9:f<9) (n4:f≠4) (n5:f≠5) (n6:f≠6) (p0:0≤p) (p2:p<2) (h:f≠7∨p≠1):f=8∨(f=7∧p=0):=by
  by_cases h8:f=8
  · exact .inl h8
  have up:∀ {a:Int},a≤f→f≠a→a+1≤f:=fun h n=>Int.add_one_le_of_lt (Int.lt_iff_le_and_ne.mpr ⟨h,Ne.symm n⟩)
  have e7:f=7:=Int.le_antisymm (Int.le_of_lt_add_one (Int.lt_iff_le_and_ne.mpr ⟨Int.le_of_lt_add_one f9,h8⟩)) (up (a:=6) (up (a:=5) (up (a:=4) (Int.not_lt.mp f4) n4) n5) n6)
  have p1:p≠1:=h.elim (fun n=>absurd e7 n) id
  exact .inr ⟨e7,Int.le_antisymm (Int.le_of_lt_add_one (Int.lt_iff_le_and_ne.mpr ⟨Int.le_of_lt_add_one p2,p1⟩)) p0⟩
theorem lrow_ok (w1:1≤w) (w6:w≤6) (hG:cell%9=8∨(cell%9=7∧place / 6%2=0)→∀ (d:D) (row:List Int),tl d=some (row.map D.int)→row.length=w→Φ d σ) (hB:¬ (cell%9=8∨(cell%9=7∧place / 6%2=0))→∀ d,BadR w d→Φ d σ):SS (k+1) 69 [.int cell,.int place,.int w] σ Φ X:=by
  refine ⟨rfl,(?_:vcSs _ _ p_law_row [some (.int cell),some (.int place),some (.int w),none,none,none,none] _ _)⟩
  refine s_assign (v_comp (m:=true) (l:=List.range (w:Int).toNat) (g:=fun (i:Nat) => .int i) (f:=fun i=>some (.int (cell / 9%5+(i:Nat)))) (d := .none) (i_rng (n:=w) (Int.ofNat_le.mpr (Nat.le_trans w6 (by decide))) (Int.natCast_nonneg _) fun h=>v_var rfl h) trivial (by rw [List.length_range]; exact Nat.le_trans w6 (by decide)) (fun i _ K hK=>⟨fun _=>vE rfl hK,nofun⟩) ?_)
  rw [List.filterMap_eq_map']
  intro p hf
  obtain ⟨row,er,hr⟩:∃ row:List Int,(List.range (w:Int).toNat).map (fun (i:Nat)=>D.int (cell / 9%5+(i:Nat)))=row.map D.int∧row.length=w:=⟨(List.range (w:Int).toNat).map fun (i:Nat)=>cell / 9%5+(i:Nat),by rw [List.map_map]; rfl,by rw [List.length_map,List.length_range]; rfl⟩
  rw [er]
  have hp:=set_at σ p (.mlist (row.map .int))
  have hs:=fr_sub (m := .mlist (row.map .int)) hf
  have hl:(row.map D.int).length=w:=by rw [List.length_map]; exact hr
  have hl':(row.map D.int).length≤100:=by rw [hl]; exact Nat.le_trans w6 (by decide)
  have wp:(0:Int)<w:=Int.natCast_pos.mpr w1
  refine s_assign (v_bin (vE rfl (vE rfl (modI wp (s_assign (vE rfl ?_))))))
  have s0:0≤place%(w:Int):=em0 _ wp
  have s1:place%(w:Int)<w:=em1 _ wp
  have f0:0≤cell%9:=em0 _ (by decide)
  have f9:cell%9<9:=em1 _ (by decide)
  show vcSs (SS k) ⟨retX X,none⟩ (p_law_row.drop 3) (envR cell place w (.obj p) (.int (place%(w:Int))) (cell%9)) _ _
  generalize place%(w:Int)=sp at s0 s1 ⊢
  generalize cell%9=f at hG hB f0 f9 ⊢
  have good:(f=8∨(f=7∧place / 6%2=0))→∀ d,tl d=some (row.map D.int)→Φ d σ:=fun h d hd=>hG h d row hd hr
  have long:∀ ys:List D,ys.length≠w→ys.length≤100→f≠7→f≠8→∀ d,tl d=some ys→Φ d σ:=fun ys h1 h2 h7 h8 d hd=>hB (nG h8 h7) d (.inr ⟨ys,hd,h2,.inl h1⟩)
  refine s_ite (tE rfl (cnd (fun e=>?_) fun e=>?_))
  · have f4:f<4:=of_decide_eq_true e
    refine s_ssub (v_sub (vE rfl (v_var rfl (subP (fun _ z=>nob z=true∧whole z=false) rfl f0 f4 ⟨⟨rfl,rfl⟩,⟨rfl,rfl⟩,⟨rfl,rfl⟩,⟨rfl,rfl⟩,trivial⟩ fun z hz=>v_var rfl (v_var rfl (.inl ⟨p,_,rfl,hp,s0,by rw [hl]; exact s1,small_ok (Nat.le_trans hl' (by decide)),?_⟩))))))
    rw [set_set]
    obtain ⟨nz,wz⟩:=hz
    have bad:∀ d,tl d=some ((row.map D.int).set sp.toNat z)→Φ d σ:=fun d hd=>by
      refine hB (nG (nlt f4 (by decide)) (nlt f4 (by decide))) d (.inr ⟨_,hd,by rw [List.length_set]; exact hl',.inr ⟨fun x hx=>?_,z,?_,wz⟩⟩)
      · rcases List.mem_or_eq_of_mem_set hx with hx | rfl
        · obtain ⟨i,_,rfl⟩:=List.mem_map.mp hx; rfl
        · exact nz
      · exact List.mem_set (by rw [hl]; exact tn s0 s1) z
    exact rowM4 (nlt f4 (by decide)) (nlt f4 (by decide)) (rowM6 (nlt f4 (by decide)) (fun z=>absurd z (nlt f4 (by decide))) (rowEnd (asL_ent (set_at _ _ _)) (by rw [List.length_set]; exact hl') (ret_sub' (fr_sub hf) (bad _ rfl)) (retS_frz hf (bad _ rfl))))
  · have f4:¬ f<4:=of_decide_eq_false e
    refine s_ite (tE rfl (cnd (fun e=>?_) fun e=>s_ite (tE rfl (cnd (fun e=>?_) fun e=>?_))))
    · have e4:f=4:=of_decide_eq_true e
      refine s_assign (v_slc1 (v_var rfl (vE rfl ⟨_,none,some (-1),asL_ent hp,rfl,rfl,small_ok (Nat.le_trans hl' (by decide)),?_⟩)))
      have hn:(sliceD (row.map D.int) none (some (-1))).length=w - 1:=by rw [slc_len,hl]
      have hn1:(sliceD (row.map D.int) none (some (-1))).length≤100:=by rw [hn]; exact Nat.le_trans (Nat.sub_le _ _) (Nat.le_trans w6 (by decide))
      have z:=long (sliceD (row.map D.int) none (some (-1))) (by rw [hn]; exact Nat.ne_of_lt (Nat.sub_lt w1 (by decide))) hn1 (neq e4 (by decide)) (neq e4 (by decide))
      show vcSs (SS k) ⟨retX X,none⟩ (p_law_row.drop 5) (envR cell place w (.list (sliceD (row.map D.int) none (some (-1)))) (.int sp) f) _ _
      exact s_ite (tE rfl (cnd (fun e=>absurd (of_decide_eq_true e) (neq e4 (by decide))) fun _=>rowM6 (neq e4 (by decide)) (fun z=>absurd z (neq e4 (by decide))) (rowEnd rfl hn1 (ret_sub' hs (z _ rfl)) (ret_sub' hs (z _ rfl)))))
    · have e5:f=5:=of_decide_eq_true e
      refine s_assign (v_bin (v_var rfl (vE rfl (add_o1 hp (by rw [hl]; exact Nat.le_trans (Nat.succ_le_succ w6) (by decide)) ?_))))
      have hn:(row.map D.int++[D.int 0]).length=w+1:=by rw [List.length_append,hl]; rfl
      have hn1:(row.map D.int++[D.int 0]).length≤100:=by rw [hn]; exact Nat.le_trans (Nat.succ_le_succ w6) (by decide)
      have z:=long (row.map D.int++[D.int 0]) (by rw [hn]; exact Nat.succ_ne_self _) hn1 (neq e5 (by decide)) (neq e5 (by decide))
      exact rowM6 (neq e5 (by decide)) (fun z=>absurd z (neq e5 (by decide))) (rowEnd rfl hn1 (ret_sub' hs (z _ rfl)) (ret_sub' hs (z _ rfl)))
    · have n4:f≠4:=of_decide_eq_false (by assumption)
      have n5:f≠5:=of_decide_eq_false e
      refine s_ite (tE rfl (cnd (fun e=>?_) fun e=>s_ite (tE rfl (cnd (fun e=>?_) fun e'=>?_))))
      · have e6:f=6:=of_decide_eq_true e
        exact s_ret (v_slc1 (vE rfl (vE rfl ⟨⟨_,rfl⟩,⟨_,rfl⟩,by decide,fun y=>ret_sub' hs (hB (nG (neq e6 (by decide)) (neq e6 (by decide))) _ (.inl rfl))⟩)))
      · have e:=Bool.and_eq_true_iff.mp e
        have e7:f=7:=of_decide_eq_true e.1
        have e1:place / 6%2=1:=of_decide_eq_true e.2
        exact s_ret (vE rfl (ret_sub' hs (hB (fun z=>z.elim (neq e7 (by decide)) fun z=>absurd (e1.symm.trans z.2) (by decide)) _ (.inl rfl))))
      · have n6:f≠6:=of_decide_eq_false e
        have hg:f=8∨(f=7∧place / 6%2=0):=by
          have p0:=em0 (place / 6) (n:=2) (by decide)
          have p2:=em1 (place / 6) (n:=2) (by decide)
          have e':=Bool.and_eq_false_iff.mp e'
          exact hg_of f4 f9 n4 n5 n6 p0 p2 (e'.imp of_decide_eq_false of_decide_eq_false)
        exact rowEnd (asL_ent hp) hl' (ret_sub' hs (good hg _ rfl)) (retS_frz hf (good hg _ rfl))
end
noncomputable def Sc (d:D):Prop:=nob d=true∧∃ x,D.py d=some x∧x.canLay0=true∧x.depth≤2
noncomputable def Od (d:D):Prop:=nobs d=true∧∃ x,D.py d=some x∧SeqAt.shaped x=true
theorem pysc:∀ xs:List D,(∀ x∈xs,Sc x)→∃ ys,D.pys xs=some ys∧PyData.canLayAll0 ys=true∧PyData.depthAll ys≤2
  | [],_=>⟨[],rfl,rfl,by simp [PyData.depthAll]⟩
  | d::ds,h=>by
    obtain ⟨_,x,e,c,p⟩:=h d List.mem_cons_self
    obtain ⟨ys,e',c',p'⟩:=pysc ds fun y hy=>h y (List.mem_cons_of_mem _ hy)
    refine ⟨x::ys,by rw [D.pys,e,e']; rfl,by rw [PyData.canLayAll0,c,c']; rfl,?_⟩
    rw [PyData.depthAll]; omega
theorem od_tl {xs:List D} (hl:xs.length≤100) (h:∀ x∈xs,Sc x):Od (.tuple xs)∧Od (.list xs):=by
  obtain ⟨ys,e,c,p⟩:=pysc xs h
  have hn:(Nat.ble xs.length 100&&xs.all nob)=true:=Bool.and_eq_true_iff.mpr ⟨Nat.ble_eq_true_of_le hl,List.all_eq_true.mpr fun x hx=>(h x hx).1⟩
  refine ⟨⟨hn,.tuple ys,by rw [D.py,e]; rfl,?_⟩,hn,.list ys,by rw [D.py,e]; rfl,?_⟩
  · show (PyData.canLay0 (.tuple ys)&&decide (PyData.depth (.tuple ys)≤64))=true
    rw [PyData.canLay0,c,PyData.depth,decide_eq_true (by omega)]; rfl
  · show (PyData.canLay0 (.list ys)&&decide (PyData.depth (.list ys)≤64))=true
    rw [PyData.canLay0,c,PyData.depth,decide_eq_true (by omega)]; rfl
theorem sc_int (i:Int):Sc (.int i):=⟨rfl,.int i,rfl,rfl,by simp [PyData.depth]⟩
theorem od_int (i:Int):Od (.int i):=by
  refine ⟨rfl,.int i,rfl,?_⟩
  show (PyData.canLay0 (.int i)&&decide (PyData.depth (.int i)≤64))=true
  rw [PyData.canLay0,PyData.depth]; rfl
theorem fr_none {σ:Store} {a b:Addr} {m:MObj} (h:freshIn (σ.set a m) b):σ b=none:=by
  have n:a≠b:=fr_ne h (set_at _ _ _)
  exact (set_ne (Ne.symm n)).symm.trans h.1
section
variable {k:Nat} {σ σ':Store} {Φ:D→Store→Prop} {X:Addr→Store→Prop} {w:Nat} {d a r s c:D} {R:Store→Prop} {cell place f:Int} {xs:List D} {p:Addr}
noncomputable abbrev envO (cell place:Int) (w:Nat) (r s:D) (f:Int):PEnv:=[some (.int cell),some (.int place),some (.int w),some r,some s,some (.int f)]
theorem sc_set {xs:List D} {z:D} {n:Nat} (h:∀ x∈xs,Sc x) (hz:Sc z):∀ x∈xs.set n z,Sc x:=fun x hx=>(List.mem_or_eq_of_mem_set hx).elim (h x) fun e=>e▸hz
theorem ordT (hs:Sub σ σ') (hn:σ p=none) (hp:σ' p=some (.mlist xs)) (hx:∀ x∈xs,Sc x) (hl:xs.length≤100) (h:∀ d,Od d→Φ d σ):vcSs (SS k) ⟨retX X,none⟩ (p_law_order.drop 5) (envO cell place w (.obj p) s f) σ' (retS Φ):=by
  obtain ⟨o1,o2⟩:=od_tl hl hx
  refine s_ite (tE rfl (cnd (fun _=>s_ret (v_sub (vE rfl (vE rfl (subP (fun _ d=>Od d) rfl (em0 _ (by decide)) (em1 _ (by decide)) ⟨od_int 0,(od_tl (xs:=[]) (by decide) nofun).1,trivial⟩ fun d z=>ret_sub' hs (h _ z)))))) fun _=>s_ite (tE rfl (cnd (fun _=>s_ret (v_var rfl (ret_frz' hs hn hp (h _ o2)))) fun _=>s_ret (v_bi (a_var rfl (a_nil ⟨xs,asL_ent hp,small_ok (Nat.le_trans hl (by decide)),ret_sub' hs (h _ o1)⟩)))))))
theorem ordR (hs:Sub σ σ') (hn:σ p=none) (hp:σ' p=some (.mlist xs)) (hx:∀ x∈xs,Sc x) (h0:xs≠[]) (hl:xs.length≤40) (h:∀ d,Od d→Φ d σ) {o1 o2:Option D}:vcSs (SS k) ⟨retX X,none⟩ (p_law_order.drop 1) [some (.int cell),some (.int place),some (.int w),some (.obj p),o1,o2] σ' (retS Φ):=by
  have l0:0<xs.length:=List.length_pos_iff.mpr h0
  have ls:xs.length≤small:=small_ok (Nat.le_trans hl (by decide))
  have lp:(0:Int)<xs.length:=Int.natCast_pos.mpr l0
  have hset:∀ ys,Sub σ (σ'.set p (.mlist ys)):=fun ys x m hx=>(set_ne fun e=>by rw [e,hn] at hx; cases hx).trans (hs x m hx)
  have m0:∀ i:Int,0≤i%(xs.length:Int)∧i%(xs.length:Int)<xs.length:=fun i=>⟨em0 _ lp,em1 _ lp⟩
  refine s_assign (v_bin (vE rfl (v_len rfl (asL_ent hp) ls (modI lp (s_assign (vE rfl ?_))))))
  show vcSs (SS k) ⟨retX X,none⟩ (p_law_order.drop 3) (envO cell place w (.obj p) (.int (place%(xs.length:Int))) (cell%9)) _ _
  have sp:=m0 place
  generalize place%(xs.length:Int)=s at sp ⊢
  have f0:0≤cell%9:=em0 _ (by decide)
  generalize cell%9=f at f0 ⊢
  have t4:∀ {ys:List D} {σ₂:Store},Sub σ σ₂→σ₂ p=some (.mlist ys)→(∀ x∈ys,Sc x)→ys.length=xs.length→vcSs (SS k) ⟨retX X,none⟩ (p_law_order.drop 4) (envO cell place w (.obj p) (.int s) f) σ₂ (retS Φ):=fun {ys σ₂} hs2 hp2 hx2 hl2=>by
    refine s_ite (tE rfl (cnd (fun _=>?_) fun _=>ordT hs2 hn hp2 hx2 (by rw [hl2]; exact Nat.le_trans hl (by decide)) h))
    have n0:=m0 (place / 4)
    refine s_expr (v_lm (v_var rfl ⟨⟨p,_,rfl,hp2⟩,a_var rfl (a_cons (v_sub (v_var rfl (v_bin (vE rfl (v_len rfl (asL_ent hp2) (by rw [hl2]; exact ls) (modI (by rw [hl2]; exact lp) ?_)))))))⟩))
    rw [hl2]
    have nn:(place / 4%(xs.length:Int)).toNat<ys.length:=by rw [hl2]; exact tn n0.1 n0.2
    refine ⟨ys,asL_ent hp2,by rw [hl2]; exact ls,.inl ⟨n0.1,_,List.getElem?_eq_getElem nn,a_nil ⟨p,ys,rfl,hp2,sp.1,by rw [hl2]; exact Int.le_of_lt sp.2,by rw [hl2]; exact ls,?_⟩⟩⟩
    refine ordT (fun x m hx=>(set_ne fun e=>by rw [e,hn] at hx; cases hx).trans (hs2 x m hx)) hn (set_at _ _ _) (fun x hx=>?_) ?_ h
    · rcases List.mem_append.mp hx with hx | hx
      · exact hx2 x (List.mem_of_mem_take hx)
      · rcases List.mem_cons.mp hx with rfl | hx
        · exact hx2 _ (List.getElem_mem _)
        · exact hx2 x (List.mem_of_mem_drop hx)
    · have:ys.length≤40:=hl2▸hl
      rw [List.length_append,List.length_cons]
      exact Nat.le_trans (Nat.add_le_add (Nat.le_trans (List.length_take_le' _ _) this) (Nat.succ_le_succ (Nat.le_trans (by rw [List.length_drop]; exact Nat.sub_le _ _) this))) (by decide)
  refine s_ite (tE rfl (cnd (fun e=>?_) fun _=>t4 hs hp hx rfl))
  have f6:f<6:=of_decide_eq_true e
  refine s_ssub (v_sub (v_list (a_cons (vE rfl (a_cons (vE rfl (a_cons (vE rfl (a_cons (vE rfl (a_cons (vE rfl (a_cons (v_bin (vE rfl (v_bin (vE rfl (p30 (modI (by decide +kernel) (addI ?_))))))))))))))))))))
  refine a_nil ⟨rfl,v_var rfl ?_⟩
  exact subP (fun _ d=>Sc d) rfl f0 f6 ⟨⟨rfl,.bool true,rfl,rfl,by simp [PyData.depth]⟩,⟨rfl,.none,rfl,rfl,by simp [PyData.depth]⟩,⟨rfl,.str "0",rfl,by rw [PyData.canLay0]; decide +kernel,by simp [PyData.depth]⟩,sc_int _,sc_int _,sc_int _,trivial⟩
    fun d z=>v_var rfl (v_var rfl (.inl ⟨p,xs,rfl,hp,sp.1,sp.2,ls,t4 (hset _) (set_at _ _ _) (sc_set hx z) List.length_set⟩))
theorem lorder_ok (h:∀ d,Od d→Φ d σ):SS (k+1) 70 [.int cell,.int place,.int w] σ Φ X:=by
  refine ⟨rfl,(?_:vcSs _ _ p_law_order [some (.int cell),some (.int place),some (.int w),none,none,none] _ _)⟩
  refine s_assign (v_sub (v_list (a_cons (v_mlist (aE rfl ⟨rfl,fun a0 h0=>a_cons (v_mlist (aE rfl ⟨rfl,fun a1 h1=>a_cons (v_mlist (aE rfl ⟨rfl,fun a2 h2=>a_cons (v_mlist (aE rfl ⟨rfl,fun a3 h3=>a_nil ⟨rfl,vE rfl ?_⟩⟩))⟩))⟩))⟩)))))
  have n0:=h0.1
  have n1:=fr_none h1
  have n2:=fr_none h2
  have n3:=fr_none h3
  have s1:=fr_sub (m := .mlist [.int 0]) h0
  have s2:=fr_sub (m := .mlist [.int 2,.int 0]) h1
  have s3:=fr_sub (m := .mlist [.int 1,.int 2]) h2
  have s4:=fr_sub (m := .mlist [.int 2,.int 1,.int 0]) h3
  have hs:Sub σ _:=fun x m e=>s4 _ _ (s3 _ _ (s2 _ _ (s1 _ _ e)))
  have none_up:∀ {τ τ':Store} {x:Addr},Sub τ τ'→τ' x=none→τ x=none:=fun {τ τ' x} hs e=>by
    cases q:τ x with
    | none=>rfl
    | some m=>rw [hs _ _ q] at e; cases e
  exact subQ rfl (em0 _ (by decide)) (em1 _ (by decide)) ⟨ordR hs n0 (s4 _ _ (s3 _ _ (s2 _ _ (set_at _ _ _)))) (by simp [sc_int]) nofun (by decide) h,ordR hs n1 (s4 _ _ (s3 _ _ (set_at _ _ _))) (by simp [sc_int]) nofun (by decide) h,
    ordR hs (none_up s1 n2) (s4 _ _ (set_at _ _ _)) (by simp [sc_int]) nofun (by decide) h,ordR hs (none_up s1 (none_up s2 n3)) (set_at _ _ _) (by simp [sc_int]) nofun (by decide) h,trivial⟩
end
noncomputable def gW (cell place:Int):Bool:=if cell%4=0 then decide (place / 21%21=20) else if cell%4=1 then decide (cell / 4%2=0) else (decide (cell%4=3) || !decide (cell / 4%4=1))
section
variable {k:Nat} {σ σ':Store} {Φ:D→Store→Prop} {X:Addr→Store→Prop} {w:Nat} {d a r s c:D} {R:Store→Prop} {cell place f:Int} {xs:List D} {p:Addr}
theorem gwish_ok (h:Φ (.bool (gW cell place)) σ):SS (k+1) 77 [.int cell,.int place] σ Φ X:=by
  refine ⟨rfl,(?_:vcSs _ _ p_law_good_wish [some (.int cell),some (.int place)] _ _)⟩
  unfold gW at h
  refine s_ite (tE rfl (cnd (fun e=>s_ret (vE rfl (retS_ret ?_))) fun e=>s_ite (tE rfl (cnd (fun e'=>s_ret (vE rfl (retS_ret ?_))) fun e'=>s_ret (vE rfl (retS_ret ?_))))))
  · rw [if_pos (of_decide_eq_true (p:=cell%4=0) e)] at h; exact h
  · rw [if_neg (of_decide_eq_false (p:=cell%4=0) e),if_pos (of_decide_eq_true (p:=cell%4=1) e')] at h; exact h
  · rw [if_neg (of_decide_eq_false (p:=cell%4=0) e),if_neg (of_decide_eq_false (p:=cell%4=1) e')] at h; exact h
theorem el_ok {S:Nat→Spec} {Y:Exs} {ρ:PEnv} {Θ:Bool→Store→Prop} {y:D} {i j g gt g' gt':Nat} {p1 p2 p3 p4 p5 p6 p7 p8 p9 p10 p11 p12 p13 p14 p15:Pos} (hi:ρ.at i=some y) (hj:ρ.at j=some (.int w)) (hy:nob y=true) (h:Θ (!hasCol w y) σ) :
    (vc S Y (.bop .Or [.isi (.var i p1) .bool g p2 gt p3 p4,.not (.isi (.var i p5) .int g' p6 gt' p7 p8) p9,.not (.cmp2 .LtE .Lt (.cint 0 p10) (.var i p11) (.var j p12) p13) p14] p15)).t ρ σ Θ:=by
  have z:∀ t b:Bool,tyS .bool y σ=some b→tyS .int y σ=some t→(b || !t)=true→hasCol w y=false→(vc S Y (.bop .Or [.isi (.var i p1) .bool g p2 gt p3 p4,.not (.isi (.var i p5) .int g' p6 gt' p7 p8) p9,.not (.cmp2 .LtE .Lt (.cint 0 p10) (.var i p11) (.var j p12) p13) p14] p15)).t ρ σ Θ:=fun t b h1 h2 e q=>by
    rw [q] at h
    refine t_orc (t_isi (v_var hi ⟨b,h1,fun _=>h,fun eb=>t_orc (t_not (t_isi (v_var hi ⟨t,h2,fun _=>h,fun et=>?_⟩)))⟩))
    subst eb
    rw [Bool.false_or] at e
    rw [e] at et; cases et
  cases y with
  | obj a=>cases hy
  | int n=>
    refine t_orc (t_isi (v_var hi ⟨false,rfl,kF rfl (t_orc (t_not (t_isi (v_var hi ⟨true,rfl,kF rfl (t_orc (t_not ?_))⟩))))⟩))
    have fin:∀ b,b=hasCol w (.int n)→((!b)=true→Θ true σ)∧((!b)=false→(vc S Y (.bop .Or [] p15)).t ρ σ Θ):=fun b e=>by
      rw [← e] at h
      cases b
      · exact kT rfl h
      · exact kF rfl (t_orn h)
    refine v_cmp2 (p:=p13) (Ψ:=fun d σ'=>truthS d σ' _) (v_cint (v_var hi ⟨fun e=>fin false ?_,fun e=>v_var hj (fin _ ?_)⟩))
    · show false=(decide (0≤n)&&_)
      rw [show decide (0≤n)=false from e]; rfl
    · show decide (n<w)=(decide (0≤n)&&decide (n<w))
      rw [show decide (0≤n)=true from e]; rfl
  | _=>exact z _ _ rfl rfl rfl rfl
theorem gord_ok (hw:w≤6) (hd:nobs d=true) (h:Φ (.bool (isOrd w d)) σ):SS (k+1) 71 [d,.int w] σ Φ X:=by
  refine ⟨rfl,(?_:vcSs _ _ p_law_good_order [some d,some (.int w),none] _ _)⟩
  have z:tyS .tuple d σ=some false→isOrd w d=false→vcSs (SS k) ⟨retX X,none⟩ p_law_good_order [some d,some (.int w),none] σ (retS Φ):=fun h1 e=>by
    rw [e] at h
    exact s_ite (t_orc (t_not (t_isi (v_var rfl ⟨false,h1,kT rfl (s_ret (vE rfl (retS_ret h)))⟩))))
  cases d with
  | obj a=>cases hd
  | tuple ds=>
    have hd:=Bool.and_eq_true_iff.mp hd
    have hl:=small_ok (Nat.le_trans (Nat.le_of_ble_eq_true hd.1) (by decide))
    have hn:=List.all_eq_true.mp hd.2
    refine s_ite (t_orc (t_not (t_isi (v_var rfl ⟨true,rfl,kF rfl (t_orc (t_cmp (v_len rfl rfl hl (vE rfl ⟨fun e=>s_ret (vE rfl (retS_ret ?_)),fun e=>t_orn ?_⟩))))⟩))))
    · cases ds with
      | nil=>exact h
      | cons a r=>have:=of_decide_eq_true e; simp at this; omega
    have h:Φ (.bool (ds.all (hasCol w)&&decide ((keysOf (bitsOf (ds.map natOf))).length=ds.length))) σ:=by
      cases ds with
      | nil=>cases e
      | cons a r=>exact h
    refine s_loop (i_var rfl rfl (for_id (fun l ρ σ'=>∃ x,((∀ y∈l,nob y=true)∧ds.all (hasCol w)=l.all (hasCol w))∧σ'=σ∧ρ=[some (.tuple ds),some (.int w),x]) (fun _ _ _ _=>trivial) ?_ ?_ ds ⟨none,⟨hn,rfl⟩,rfl,rfl⟩))
    · rintro y l ρ σ' ⟨x,⟨hn,ha⟩,rfl,rfl⟩ Ψ hN hr
      obtain ⟨hy,hn⟩:=List.forall_mem_cons.mp hn
      rw [List.all_cons] at ha
      refine s_ite (el_ok rfl rfl hy (cnd (fun e=>?_) fun e=>?_))
      · have e:hasCol w y=false:=by simpa using e
        rw [e] at ha
        rw [ha] at h
        exact s_ret (vE rfl (hr _ _ (retS_ret h)))
      · have e:hasCol w y=true:=by simpa using e
        rw [e] at ha
        exact hN _ _ ⟨_,⟨hn,ha⟩,rfl,rfl⟩
    · rintro ρ σ' ⟨x,⟨_,ha⟩,rfl,rfl⟩
      have hz:=ord_nats ha
      rw [ha] at h
      refine s_ret (v_cmp (v_lset rfl ⟨ds.map natOf,congrArg D.tuple hz.1,fun c hc=>Nat.lt_of_lt_of_le (hz.2 c hc) hw,by rw [List.length_map]; exact hl,v_len rfl rfl hl (retS_ret ?_)⟩))
      rw [decide_eq_decide.mpr (Int.ofNat_inj)]; exact h
  | _=>exact z rfl rfl
end
noncomputable def badL (w:Nat):List D:=[.list [.int 0,.int 1,.int 2],.tuple [.int 0,.int 1],.tuple [.int 0,.int 1,.int 2,.int 3],.tuple [.int w,.none,.none],.tuple [.int (-1),.int 1,.int 1],.tuple [.bool true,.int 1,.int 1],.tuple [.none,.int 1,.int 1]] ++
  [.tuple [.str "0",.int 1,.int 1],.tuple [.int 0,.bool true,.none],.tuple [.int 0,.none,.bool false],.tuple [.int 0,.str "1",.none],.tuple [.int 0,.int 1,.list [.int 2]],.none]
theorem bad_ok (w:Nat):∀ x∈badL w,nobs x=true∧isTri w x=false:=by
  have e:∀ {x y:D},(isEnd x&&isEnd y)=false→∀ a,isTri w (.tuple [a,x,y])=false:=fun {x y} h a=>by
    show (hasCol w a&&(isEnd x&&isEnd y))=false
    rw [h,Bool.and_false]
  have h:∀ {a:D},hasCol w a=false→∀ x y,isTri w (.tuple [a,x,y])=false:=fun {a} h x y=>by
    show (hasCol w a&&(isEnd x&&isEnd y))=false
    rw [h]; rfl
  have hw:hasCol w (.int w)=false:=by
    show (decide ((0:Int)≤w)&&decide ((w:Int)<w))=false
    rw [decide_eq_false (Int.lt_irrefl _),Bool.and_false]
  intro x hx
  simp only [badL,List.cons_append,List.nil_append,List.mem_cons,List.not_mem_nil,or_false] at hx
  rcases hx with rfl | rfl | rfl | rfl | rfl | rfl | rfl | rfl | rfl | rfl | rfl | rfl | rfl
  · exact ⟨rfl,rfl⟩
  · exact ⟨rfl,rfl⟩
  · exact ⟨rfl,rfl⟩
  · exact ⟨rfl,h hw _ _⟩
  · exact ⟨rfl,h rfl _ _⟩
  · exact ⟨rfl,h rfl _ _⟩
  · exact ⟨rfl,h rfl _ _⟩
  · exact ⟨rfl,h rfl _ _⟩
  · exact ⟨rfl,e rfl _⟩
  · exact ⟨rfl,e rfl _⟩
  · exact ⟨rfl,e rfl _⟩
  · exact ⟨rfl,e rfl _⟩
  · exact ⟨rfl,rfl⟩
section
variable {k:Nat} {σ σ':Store} {Φ:D→Store→Prop} {X:Addr→Store→Prop} {w:Nat} {d a r s c:D} {R:Store→Prop} {cell place f:Int} {xs:List D} {p:Addr}
noncomputable abbrev envW (cell place:Int) (w:Nat) (m:Int) (r:D):PEnv:=[some (.int cell),some (.int place),some (.int w),some (.list (badL w)),some (.int m),some r,none]
theorem wishT {m:Int} (h2:¬ (cell%4=2∧cell / 4%4=1)) (h:retS Φ (.ret r σ')):vcSs (SS k) ⟨retX X,none⟩ (p_law_wish.drop 6) (envW cell place w m r) σ' (retS Φ):=
  s_ite (tE rfl (cnd (fun e=>absurd ⟨of_decide_eq_true (Bool.and_eq_true_iff.mp e).1,of_decide_eq_true (Bool.and_eq_true_iff.mp e).2⟩ h2) fun _=>s_ret (v_var rfl h)))
theorem wish_n {m:Nat} {b:Int} (hm:m≤20) (b0:0≤b) (b1:b<2):∃ n:Nat,20+b - m=n∧n≤21∧(b=0→m+n=20)∧(¬ b=0→m+n=21):=by
  obtain ⟨b,rfl⟩:=Int.eq_ofNat_of_zero_le b0
  exact (by decide +kernel:∀ m<(21:Nat),∀ b<(2:Nat),∃ n<(22:Nat),20+(b:Int) - m=(n:Nat)∧n≤21∧((b:Int)=0→m+n=20)∧(¬ (b:Int)=0→m+n=21)) m (Nat.lt_succ_of_le hm) b (Int.ofNat_lt.mp b1) |>.imp fun n h=>h.2
theorem c3_of {c:Int} (h0:0≤c) (h4:c<4) (c0:¬ c=0) (c1:¬ c=1) (c2:¬ c=2):c=3:=by
  have up:∀ {a:Int},a≤c→¬ c=a→a+1≤c:=fun h n=>Int.add_one_le_of_lt (Int.lt_iff_le_and_ne.mpr ⟨h,Ne.symm n⟩)
  exact Int.le_antisymm (Int.le_of_lt_add_one h4) (up (a:=2) (up (a:=1) (up (a:=0) h0 c0) c1) c2)
theorem lwish_ok (w1:1≤w) (hG:gW cell place=true→∀ W:List Tri,(∀ t∈W,t.1<w)→W.length≤20→Φ (.list (W.map triD)) σ) (hB:gW cell place=false→∀ d σ',Sub σ σ'→BadW σ' w d→Φ d σ'):SS (k+1) 78 [.int cell,.int place,.int w] σ Φ X:=by
  refine ⟨rfl,(?_:vcSs _ _ p_law_wish [some (.int cell),some (.int place),some (.int w),none,none,none,none] _ _)⟩
  refine s_assign (vE rfl (s_assign (v_bin (v_var rfl (vE rfl (add_list (Nat.le_of_ble_eq_true rfl) (s_assign (vE rfl ?_))))))))
  obtain ⟨m,hm,em⟩:∃ m:Nat,m≤20∧place / 21%21=m:=⟨(place / 21%21).toNat,Nat.le_of_lt_succ (tn (em0 _ (by decide)) (em1 _ (by decide))),(Int.toNat_of_nonneg (em0 _ (by decide))).symm⟩
  show vcSs (SS k) ⟨retX X,none⟩ (p_law_wish.drop 3) [some (.int cell),some (.int place),some (.int w),some (.list (badL w)),some (.int (place / 21%21)),none,none] _ _
  rw [em]
  have eg:gW cell place=if cell%4=0 then decide ((m:Int)=20) else if cell%4=1 then decide (cell / 4%2=0) else (decide (cell%4=3) || !decide (cell / 4%4=1)):=by rw [gW,em]
  rw [eg] at hG hB
  clear eg em
  refine s_assign (v_comp (m:=true) (l:=List.range (m:Int).toNat) (g:=fun (i:Nat) => .int i) (f:=fun i=>some (triD (i%w,none,some 1))) (d := .none) (i_rng (n:=m) (Int.ofNat_le.mpr (Nat.le_trans hm (by decide))) (Int.natCast_nonneg _) fun h=>v_var rfl h) trivial (by rw [List.length_range]; exact Nat.le_trans hm (by decide)) (fun i _ K hK=>⟨fun _=>v_tup (a_cons (v_bin (vE rfl (vE rfl (modI (Int.natCast_pos.mpr w1) (aE rfl ⟨rfl,hK⟩))))) ),nofun⟩) ?_)
  rw [List.filterMap_eq_map']
  intro p hf
  obtain ⟨W,eW,hW,lW⟩:∃ W:List Tri,(List.range (m:Int).toNat).map (fun (i:Nat)=>triD (i%w,none,some 1))=W.map triD∧(∀ t∈W,t.1<w)∧W.length=m:=⟨(List.range (m:Int).toNat).map fun (i:Nat)=>(i%w,none,some 1),by rw [List.map_map]; rfl,fun t ht=>by
    obtain ⟨i,_,rfl⟩:=List.mem_map.mp ht
    exact Nat.mod_lt _ w1,by rw [List.length_map,List.length_range]; rfl⟩
  show vcSs (SS k) ⟨retX X,none⟩ (p_law_wish.drop 4) (envW cell place w m (.obj p)) (σ.set p (.mlist ((List.range (m:Int).toNat).map (fun (i:Nat)=>triD (i%w,none,some 1))))) _
  rw [eW]
  have hp:=set_at σ p (.mlist (W.map triD))
  have hs:=fr_sub (m := .mlist (W.map triD)) hf
  have hl:(W.map triD).length=m:=by rw [List.length_map,lW]
  have hsm:(W.map triD).length≤small:=by rw [hl]; exact small_ok (Nat.le_trans hm (by decide))
  refine s_ite (tE rfl (cnd (fun e=>?_) fun e=>?_))
  · have e:=Bool.and_eq_true_iff.mp e
    have c0:cell%4=0:=of_decide_eq_true e.1
    have m20:(m:Int)<20:=of_decide_eq_true e.2
    rw [if_pos c0,decide_eq_false (Int.ne_of_lt m20)] at hB
    have mp:(0:Int)<(m:Int)+1:=Int.natCast_pos.mpr (Nat.succ_pos m)
    have i0:0≤place%((m:Int)+1):=em0 _ mp
    have i1:place%((m:Int)+1)<m+1:=em1 _ mp
    refine s_expr (v_lm (v_var rfl ⟨⟨p,_,rfl,hp⟩,a_cons (v_bin (vE rfl (vE rfl (modI mp (a_cons (v_sub (v_var rfl (vE rfl (subM (Nat.le_of_ble_eq_true rfl) ?_ ?_ fun j hj _=>a_nil ⟨p,_,rfl,hp,i0,by rw [hl]; exact Int.lt_add_one_iff.mp i1,hsm,?_⟩)))))))))⟩))
    · exact em0 _ (by decide)
    · exact em1 _ (by decide)
    rw [set_set]
    obtain ⟨b1,b2⟩:=bad_ok w _ (List.getElem_mem hj)
    refine s_ite (tE rfl (cnd (fun e=>absurd (of_decide_eq_true (p:=cell%4=1) e) (neq c0 (by decide))) fun _=>wishT (fun z=>absurd z.1 (neq c0 (by decide))) (retS_frz hf (hB rfl _ σ (Sub.refl σ) (.inr ⟨_,rfl,?_,.inr ⟨fun x hx=>?_,_,List.mem_append_right _ List.mem_cons_self,b2⟩⟩)))))
    · rw [List.length_append,List.length_cons]
      have l2:(W.map triD).length≤20:=by rw [hl]; exact hm
      exact Nat.le_trans (Nat.add_le_add (Nat.le_trans (List.length_take_le' _ _) l2) (Nat.succ_le_succ (Nat.le_trans (by rw [List.length_drop]; exact Nat.sub_le _ _) l2))) (by decide)
    · have z:∀ x∈W.map triD,nobs x=true:=fun x hx=>by
        obtain ⟨t,_,rfl⟩:=List.mem_map.mp hx
        exact tri_nobs t
      rcases List.mem_append.mp hx with hx | hx
      · exact z x (List.mem_of_mem_take hx)
      · rcases List.mem_cons.mp hx with rfl | hx
        · exact b1
        · exact z x (List.mem_of_mem_drop hx)
  have e0:cell%4=0→m=20:=fun c0=>by
    rcases Bool.and_eq_false_iff.mp e with h | h
    · exact absurd c0 (of_decide_eq_false h)
    · exact Nat.le_antisymm hm (Int.ofNat_le.mp (Int.not_lt.mp (of_decide_eq_false (p:=(m:Int)<20) h)))
  clear e
  refine s_ite (tE rfl (cnd (fun e=>?_) fun e=>?_))
  · have c1:cell%4=1:=of_decide_eq_true e
    rw [if_neg (neq c1 (by decide)),if_pos c1] at hG hB
    have b0:=em0 (cell / 4) (n:=2) (by decide)
    have b1:=em1 (cell / 4) (n:=2) (by decide)
    obtain ⟨n,en,hn21,hb0,hb1⟩:=wish_n hm b0 b1
    refine s_assign (v_bin (v_var rfl (v_bin (v_mlist (aE rfl ⟨rfl,fun p2 hf2=>vE (d := .int n) (by rw [← en]; rfl) ⟨_,set_at _ _ _,Int.natCast_nonneg _,Int.ofNat_le.mpr (small_ok (Nat.le_trans hn21 (by decide))),?_,List.cons_ne_nil _ _,?_⟩⟩)))))
    · show 1*n≤small
      rw [Nat.one_mul]; exact small_ok (Nat.le_trans hn21 (by decide))
    have er:(List.replicate (n:Int).toNat [triD (0,some 1,some 2)]).flatten=(List.replicate n ((0,some 1,some 2):Tri)).map triD:=by
      rw [List.map_replicate]; exact List.flatten_replicate_singleton
    show binS .Add (.obj p) (.list (List.replicate (n:Int).toNat [triD (0,some 1,some 2)]).flatten) _ _
    rw [er]
    refine add_ol (fr_at hf2 hp) (by rw [hl,List.length_map,List.length_replicate]; exact Nat.le_trans (Nat.add_le_add hm hn21) (by decide)) ?_
    rw [← List.map_append]
    have hs2:Sub σ ((σ.set p (.mlist (W.map triD))).set p2 (.mlist [triD (0,some 1,some 2)])):=fun x m e=>fr_sub hf2 _ _ (hs _ _ e)
    have hL:(W++List.replicate n ((0,some 1,some 2):Tri)).length=m+n:=by rw [List.length_append,List.length_replicate,lW]
    refine wishT (fun z=>absurd z.1 (neq c1 (by decide))) (ret_sub' hs2 ?_)
    by_cases b0:cell / 4%2=0
    · refine hG (decide_eq_true b0) _ (fun t ht=>?_) (by rw [hL]; exact Nat.le_of_eq (hb0 b0))
      rcases List.mem_append.mp ht with ht | ht
      · exact hW t ht
      · rw [(List.mem_replicate.mp ht).2]; exact w1
    · exact hB (decide_eq_false b0) _ σ (Sub.refl σ) (.inr ⟨_,rfl,by rw [List.length_map,hL,hb1 b0]; decide,.inl (by rw [List.length_map,hL,hb1 b0]; decide)⟩)
  have n1:¬ cell%4=1:=of_decide_eq_false e
  by_cases q:cell%4=2∧cell / 4%4=1
  · rw [if_neg (neq q.1 (by decide)),if_neg n1,decide_eq_false (neq q.1 (by decide)),decide_eq_true q.2] at hB
    refine s_ite (tE rfl (cnd (fun _=>?_) fun e=>?_))
    · refine s_ret (v_sub (v_list (a_cons (v_bi (a_var rfl (a_nil ⟨_,asL_ent hp,hsm,a_cons (vE rfl (a_cons (v_dct fun p2 hf2=>a_nil ⟨rfl,vE rfl (subQ rfl (em0 _ (by decide)) (em1 _ (by decide)) ?_)⟩)))⟩))))))
      have hs2:Sub σ ((σ.set p (.mlist (W.map triD))).set p2 (.mdict [])):=fun x m e=>fr_sub hf2 _ _ (hs _ _ e)
      exact ⟨retS_ret (hB rfl _ _ hs2 (.inl rfl)),retS_ret (hB rfl _ _ hs2 (.inl rfl)),retS_ret (hB rfl _ _ hs2 (.inl (by show (match Store.set _ _ _ p2 with | some (.mlist _)=>_ | some (.mdict _)=>_ | _=>_)=_; rw [set_at]))),trivial⟩
    · rcases Bool.and_eq_false_iff.mp e with h | h
      · exact absurd q.1 (of_decide_eq_false h)
      · exact absurd q.2 (of_decide_eq_false h)
  · refine wishT q (retS_frz hf (hG ?_ W hW (lW▸hm)))
    by_cases c0:cell%4=0
    · rw [if_pos c0]; exact decide_eq_true (congrArg Int.ofNat (e0 c0))
    · rw [if_neg c0,if_neg n1]
      by_cases c2:cell%4=2
      · rw [decide_eq_false (p:=cell / 4%4=1) (fun z=>q ⟨c2,z⟩)]; exact Bool.or_true _
      · rw [decide_eq_true (p:=cell%4=3) (c3_of (em0 _ (by decide)) (em1 _ (by decide)) c0 n1 c2)]; rfl
end
theorem t_andc {S:Nat→Spec} {X:Exs} {ρ:PEnv} {σ:Store} {Θ:Bool→Store→Prop} {e:PE} {es:List PE} {p:Pos} (h:(vc S X e).t ρ σ fun b σ'=>(b=false→Θ false σ')∧(b=true→(vc S X (.bop .And es p)).t ρ σ' Θ)):(vc S X (.bop .And (e::es) p)).t ρ σ Θ:=h
theorem t_andn {S:Nat→Spec} {X:Exs} {ρ:PEnv} {σ:Store} {Θ:Bool→Store→Prop} {p:Pos} (h:Θ true σ):(vc S X (.bop .And [] p)).t ρ σ Θ:=h
theorem subI {σ:Store} {Ψ:D→Store→Prop} {x y:Int} (h:Ψ (.int (x - y)) σ):binS .Sub (.int x) (.int y) σ Ψ:=h
theorem row_none {T:Tab} {n:Int} (h:n ∉ T.map (·.1)):rowO T (.int n)=none:=List.find?_eq_none.mpr fun x hx e=>h (by rw [← of_decide_eq_true (p:=x.1=n) e]; exact List.mem_map_of_mem (f:=(·.1)) hx)
theorem row_some {T:Tab} {n:Int} (h:n∈T.map (·.1)):(rowO T (.int n)).isSome=true:=by
  obtain ⟨x,hx,e⟩:=List.mem_map.mp h
  exact List.find?_isSome.mpr ⟨x,hx,decide_eq_true e⟩
structure St (q:Q) (w:Nat):Prop where
  w:q.w=w
  k:q.T.map (·.1)=[0,1,2]
  f:q.f=3
  c:q.os.map (·.cols)=[[0],[1,0]]
theorem has_t {w:Nat} {i:Int} (h0:0≤i) (h1:i<w):hasCol w (.int i)=true:=by
  show (decide (0≤i)&&decide (i<w))=true
  rw [decide_eq_true h0,decide_eq_true h1]; rfl
theorem has_f {w:Nat} {i:Int} (h:i<0∨w≤i):hasCol w (.int i)=false:=by
  show (decide (0≤i)&&decide (i<w))=false
  rcases h with h | h
  · rw [decide_eq_false (Int.not_le.mpr h)]; rfl
  · rw [decide_eq_false (p:=i<w) (Int.not_lt.mpr h),Bool.and_false]
section
variable {k:Nat} {σ σ':Store} {Φ:D→Store→Prop} {X:Addr→Store→Prop} {w:Nat} {d c v way:D} {R:Store→Prop} {cell place f:Int} {q:Q}
theorem wd (x:Nat×Str) (h:wds.contains x=true):x∈wds:=List.contains_iff_mem.mp h
theorem chg_fin (ti:TI σ q) (hd:nob d=true) (hc:nob c=true) (hv:nob v=true) {K:Int} (hK:K=10∨K=11) {s:Str}
    (h0:rowO q.T d=none→s = "no row") (h1:(rowO q.T d).isSome=true→K=10→hasCol q.w c=false→s = "bad column") (h2:(rowO q.T d).isSome=true→K=10→hasCol q.w c=true→whole v=false→s = "bad row")
    (h3:(rowO q.T d).isSome=true→K=11∨(hasCol q.w c=true∧whole v=true)→s = "given") (h:∀ σ',Φ (.bool true) σ'):SS (k+11) 68 [.obj q.t,.int K,.tuple [d,c,v],.none,.str s] σ Φ X:=by
  have ts:=ti.s
  cases e:rowO q.T d with
  | none=>
    rw [h0 e]
    refine holds_fails ti (wd (73, "no row") (by decide +kernel)) ?_ (h σ)
    intro Φ X hX
    have z:∀ x,rowO q.T d=some x→False:=fun x hx=>by rw [e] at hx; cases hx
    have z':(rowO q.T d).isSome=true→False:=fun hx=>by rw [e] at hx; cases hx
    rcases hK with rfl | rfl
    · exact act10 ts (change_ok ti hd hc hv (fun _=>xs hX) (fun h=>(z' h).elim) (fun h=>(z' h).elim) fun h=>(z' h).elim)
    · exact act11 ts (tdrop_ok ti hd (fun _=>xs hX) fun x hx=>(z x hx).elim)
  | some x=>
    have es:(rowO q.T d).isSome=true:=by rw [e]; rfl
    have z0:rowO q.T d=none→False:=fun h=>by rw [e] at h; cases h
    rcases hK with rfl | rfl
    · cases e1:hasCol q.w c with
      | false=>
        rw [h1 es rfl e1]
        refine holds_fails ti (wd (85, "bad column") (by decide +kernel)) ?_ (h σ)
        intro Φ X hX
        exact act10 ts (change_ok ti hd hc hv (fun h=>(z0 h).elim) (fun _ _=>xs hX) (fun _ h=>by rw [e1] at h; cases h) fun _ h=>by rw [e1] at h; cases h)
      | true=>
        cases e2:whole v with
        | false=>
          rw [h2 es rfl e1 e2]
          refine holds_fails ti (wd (49, "bad row") (by decide +kernel)) ?_ (h σ)
          intro Φ X hX
          exact act10 ts (change_ok ti hd hc hv (fun h=>(z0 h).elim) (fun _ h=>by rw [e1] at h; cases h) (fun _ _ _=>xs hX) fun _ _ h=>by rw [e2] at h; cases h)
        | true=>
          rw [h3 es (.inr ⟨e1,e2⟩)]
          refine holds_done (R:=fun _=>True) ti ?_ fun σ' _=>h σ'
          intro Φ X hX
          exact act10 ts (change_ok ti hd hc hv (fun h=>(z0 h).elim) (fun _ h=>by rw [e1] at h; cases h) (fun _ _ h=>by rw [e2] at h; cases h) fun _ _ _ σ'=>ns (hX σ' trivial))
    · rw [h3 es (.inl rfl)]
      refine holds_done (R:=fun _=>True) ti ?_ fun σ' _=>h σ'
      intro Φ X hX
      exact act11 ts (tdrop_ok ti hd (fun h=>(z0 h).elim) fun _ _ _ σ' _ _=>ns (hX σ' trivial))
theorem changed_ok (ti:TI σ q) (st:St q w) (w3:3≤w) {K:Int} (hK:K=10∨K=11) (h:∀ σ',Φ (.bool true) σ'):SS (k+12) 74 [.obj q.t,.int w,.int cell,.int place,.int K] σ Φ X:=by
  refine ⟨rfl,(?_:vcSs _ _ p_law_changed [some (.obj q.t),some (.int w),some (.int cell),some (.int place),some (.int K),none,none,none,none] _ _)⟩
  have hk:=st.k
  refine s_assign (v_sub (v_list (a_cons (vE rfl (a_cons (vE rfl (a_cons (vE rfl (a_cons (v_sub (vE rfl (vE rfl (subP (fun _ n=>nob n=true∧rowO q.T n=none) rfl (em0 _ (by decide)) (em1 _ (by decide)) ⟨⟨rfl,row_none (by rw [hk]; decide)⟩,⟨rfl,row_none (by rw [hk]; decide)⟩,⟨rfl,rfl⟩,⟨rfl,rfl⟩,⟨rfl,rfl⟩,trivial⟩ fun n3 hn3=>a_nil ⟨rfl,vE rfl ?_⟩)))))))))))))
  have rs:∀ {i:Int} {c:Nat},i≠3→[(0:Int),1,2].contains c=true→nob (.int c)=true∧(i=3→rowO q.T (.int c)=none)∧(i≠3→(rowO q.T (.int c)).isSome=true):=fun h0 h=>⟨rfl,fun e=>absurd e h0,fun _=>row_some (by rw [hk]; exact List.contains_iff_mem.mp h)⟩
  refine subP (fun i n=>nob n=true∧(i=3→rowO q.T n=none)∧(i≠3→(rowO q.T n).isSome=true)) rfl (em0 _ (by decide)) (em1 _ (by decide)) ⟨rs (c:=0) (by decide) rfl,rs (c:=1) (by decide) rfl,rs (c:=2) (by decide) rfl,⟨hn3.1,fun _=>hn3.2,fun h=>absurd rfl h⟩,trivial⟩ fun n hn=>?_
  refine s_assign (v_sub (v_list (a_cons (vE rfl (a_cons (vE rfl (a_cons (vE rfl (a_cons (v_sub (vE rfl (vE rfl (subP (fun _ n=>nob n=true∧hasCol w n=false) rfl (em0 _ (by decide)) (em1 _ (by decide)) ⟨⟨rfl,has_f (.inr (Int.le_refl _))⟩,⟨rfl,has_f (.inl (by decide))⟩,⟨rfl,has_f (.inl (by decide))⟩,⟨rfl,rfl⟩,⟨rfl,rfl⟩,trivial⟩ fun c3 hc3=>a_nil ⟨rfl,vE rfl ?_⟩)))))))))))))
  have ht:∀ {i j:Int},i≠3→0≤j→j<w→nob (.int j)=true∧(i=3→hasCol w (.int j)=false)∧(i≠3→hasCol w (.int j)=true):=fun h0 h h'=>⟨rfl,fun e=>absurd e h0,fun _=>has_t h h'⟩
  refine subP (fun i n=>nob n=true∧(i=3→hasCol w n=false)∧(i≠3→hasCol w n=true)) rfl (em0 _ (by decide)) (em1 _ (by decide)) ⟨ht (by decide) (by decide) (Int.ofNat_lt.mpr (Nat.lt_of_lt_of_le (by decide:0<3) w3)),ht (by decide) (by decide) (Int.ofNat_lt.mpr (Nat.lt_of_lt_of_le (by decide:1<3) w3)),ht (by decide) (Int.sub_nonneg_of_le (Int.ofNat_le.mpr (Nat.le_trans (by decide:1≤3) w3))) (Int.sub_lt_self _ (by decide)),⟨hc3.1,fun _=>hc3.2,fun h=>absurd rfl h⟩,trivial⟩ fun c hc=>?_
  refine s_assign (v_sub (v_list (a_cons (vE rfl (a_cons (v_bin (vE rfl (p30 ?_))))))))
  have hx:∀ {i:Int} {n:D},1<i→nob n=true→whole n=false→nob n=true∧(1<i→whole n=false)∧(¬ 1<i→whole n=true):=fun h a b=>⟨a,fun _=>b,fun z=>absurd h z⟩
  have hy:∀ {i:Int} {n:D},¬ 1<i→nob n=true→whole n=true→nob n=true∧(1<i→whole n=false)∧(¬ 1<i→whole n=true):=fun h a b=>⟨a,fun z=>absurd z h,fun _=>b⟩
  refine subI (aE rfl ⟨rfl,vE rfl (subP (xs:=[.int 5,.int (0 - 10 ^ 30),.bool true,.none,.str "1",.list [.int 1]]) (fun i n=>nob n=true∧(1<i→whole n=false)∧(¬ 1<i→whole n=true)) rfl (em0 _ (by decide)) (em1 _ (by decide)) ⟨hy (by decide) rfl rfl,hy (by decide) rfl rfl,hx (by decide) rfl rfl,hx (by decide) rfl rfl,hx (by decide) rfl rfl,hx (by decide) rfl rfl,trivial⟩ fun v hv=>?_)⟩)
  rw [← st.w] at hc
  have fin:∀ s:Str,(rowO q.T n=none→s = "no row")→((rowO q.T n).isSome=true→K=10→hasCol q.w c=false→s = "bad column")→((rowO q.T n).isSome=true→K=10→hasCol q.w c=true→whole v=false→s = "bad row")→((rowO q.T n).isSome=true→K=11∨(hasCol q.w c=true∧whole v=true)→s = "given")→
      vcSs (SS (k+11)) ⟨retX X,none⟩ (p_law_changed.drop 5) [some (.obj q.t),some (.int w),some (.int cell),some (.int place),some (.int K),some n,some c,some v,some (.str s)] σ (retS Φ):=fun s h0 h1 h2 h3=>s_ret (v_call (aE rfl (chg_fin ti hn.1 hc.1 hv.1 hK h0 h1 h2 h3 fun σ'=>retS_ret (h σ'))))
  refine s_assign (vE rfl (s_ite (tE rfl (cnd (fun e=>s_assign (vE rfl (fin "no row" (fun _=>rfl) ?_ ?_ ?_))) fun e=>s_ite (tE rfl (cnd (fun e'=>s_assign (vE rfl (fin "bad column" ?_ (fun _ _ _=>rfl) ?_ ?_))) fun e'=>s_ite (tE rfl (cnd (fun e''=>s_assign (vE rfl (fin "bad row" ?_ ?_ (fun _ _ _ _=>rfl) ?_))) fun e''=>fin "given" ?_ ?_ ?_ fun _ _=>rfl))))))))
  · intro hs; rw [hn.2.1 (of_decide_eq_true e)] at hs; cases hs
  · intro hs; rw [hn.2.1 (of_decide_eq_true e)] at hs; cases hs
  · intro hs; rw [hn.2.1 (of_decide_eq_true e)] at hs; cases hs
  · intro h; have:=hn.2.2 (of_decide_eq_false e); rw [h] at this; cases this
  · intro _ _ h; rw [hc.2.1 (of_decide_eq_true (Bool.and_eq_true_iff.mp e').2)] at h; cases h
  · rintro _ (h | ⟨h,_⟩)
    · exact absurd (of_decide_eq_true (Bool.and_eq_true_iff.mp e').1) (neq h (by decide))
    · rw [hc.2.1 (of_decide_eq_true (Bool.and_eq_true_iff.mp e').2)] at h; cases h
  · intro h; have:=hn.2.2 (of_decide_eq_false e); rw [h] at this; cases this
  · intro _ hK h
    rcases Bool.and_eq_false_iff.mp e' with z | z
    · exact absurd hK (of_decide_eq_false z)
    · rw [hc.2.2 (of_decide_eq_false z)] at h; cases h
  · rintro _ (h | ⟨_,h⟩)
    · exact absurd (of_decide_eq_true (Bool.and_eq_true_iff.mp e'').1) (neq h (by decide))
    · rw [hv.2.1 (of_decide_eq_true (Bool.and_eq_true_iff.mp e'').2)] at h; cases h
  · intro h; have:=hn.2.2 (of_decide_eq_false e); rw [h] at this; cases this
  · intro _ hK h
    rcases Bool.and_eq_false_iff.mp e' with z | z
    · exact absurd hK (of_decide_eq_false z)
    · rw [hc.2.2 (of_decide_eq_false z)] at h; cases h
  · intro _ hK _ h
    rcases Bool.and_eq_false_iff.mp e'' with z | z
    · exact absurd hK (of_decide_eq_false z)
    · rw [hv.2.2 (of_decide_eq_false z)] at h; cases h
end
theorem v_andG {S:Nat→Spec} {X:Exs} {ρ:PEnv} {σ:Store} {Ψ:D→Store→Prop} {e f:PE} {es:List PE} {p:Pos} (h:(vc S X e).v ρ σ fun d σ'=>truthS d σ' fun b σ''=>(b=false→Ψ d σ'')∧(b=true→(vc S X (.bop .And (f::es) p)).v ρ σ'' Ψ)):(vc S X (.bop .And (e::f::es) p)).v ρ σ Ψ:=h
noncomputable def six:List (List Nat):=[[2],[0,1],[0,2],[2,0],[1,2],[2,1]]
theorem ord_w:∀ w∈[3,4,5,6],∀ y∈six++[[0],[1,0]],isOrd w (dN y)=true:=by decide +kernel
theorem ord_w' {w:Nat} (w3:3≤w) (w6:w≤6):∀ y∈six++[[0],[1,0]],isOrd w (dN y)=true:=ord_w w (by simp only [List.mem_cons,List.not_mem_nil,or_false]; omega)
theorem six_nd:([[0],[1,0]]++six).Nodup:=by decide
theorem kept_none {q:Q} {y:List Nat} (h:y ∉ q.os.map (·.cols)):keptO q (dN y)=none:=by
  unfold keptO
  cases isOrd q.w (dN y) with
  | false=>rfl
  | true=>
    refine List.find?_eq_none.mpr fun o ho e=>h ?_
    have e:=of_decide_eq_true (p:=o.cols=natsOf (dN y)) e
    rw [nats_dN] at e
    rw [← e]; exact List.mem_map_of_mem (f:=(·.cols)) ho
theorem kept_some {q:Q} {y:List Nat} (ho:isOrd q.w (dN y)=true) (h:y∈q.os.map (·.cols)):∃ o,keptO q (dN y)=some o∧o.cols=y:=by
  obtain ⟨o,hm,e⟩:=List.mem_map.mp h
  have ek:keptO q (dN y)=q.os.find? fun o=>decide (o.cols=y):=by rw [keptO,ho,nats_dN]; rfl
  have:(keptO q (dN y)).isSome=true:=by rw [ek]; exact List.find?_isSome.mpr ⟨o,hm,decide_eq_true e⟩
  obtain ⟨o',h'⟩:=Option.isSome_iff_exists.mp this
  exact ⟨o',h',of_decide_eq_true (p:=o'.cols=y) (List.find?_some (p:=fun o:O=>decide (o.cols=y)) (by rw [← ek]; exact h'))⟩
section
variable {k:Nat} {σ σ':Store} {Φ:D→Store→Prop} {X:Addr→Store→Prop} {w:Nat} {d c v way:D} {R:Store→Prop} {cell place f:Int} {q:Q}
theorem bad_order:(109,("bad order" : Str))∈wds:=wd _ (by decide +kernel)
theorem askT (ti:TI σ q) {K:Int} (hK:K=2∨K=3∨K=4) (h:∀ σ',Φ (.bool true) σ') {o:Option D}:vcSs (SS (k+11)) ⟨retX X,none⟩ (p_law_asked.drop 1) [some (.obj q.t),some (.int q.w),some (.int cell),some (.int place),some (.int K),o,none,none,none] σ (retS Φ):=by
  have ts:=ti.s
  have w6:=ti.tt.w6
  refine s_assign (v_call (aE rfl (lorder_ok fun d od=>?_)))
  obtain ⟨hd,x,hx,hsh⟩:=od
  have hh:∀ σ',retS Φ (.ret (.bool true) σ'):=fun σ'=>retS_ret (h σ')
  have rest:∀ κ:Bool,κ=(keptO q d).isSome→vcSs (SS (k+11)) ⟨retX X,none⟩ (p_law_asked.drop 3) [some (.obj q.t),some (.int q.w),some (.int cell),some (.int place),some (.int K),o,some d,some (.bool κ),none] σ (retS Φ):=by
    intro κ hκ
    refine s_assign (vE rfl ?_)
    rcases hK with rfl | hK
    · have bad:(isOrd q.w d=true→keptO q d=none→q.os.length<8→False)→vcSs (SS (k+11)) ⟨retX X,none⟩ (p_law_asked.drop 5) [some (.obj q.t),some (.int q.w),some (.int cell),some (.int place),some (.int 2),o,some d,some (.bool κ),some (.str "bad order")] σ (retS Φ):=fun hb=>by
        refine s_ite (t_andc (tE rfl (kF' rfl (s_ret (v_call (aE rfl (holds_fails ti bad_order ?_ (hh σ))))))))
        intro Φ X hX
        exact act2 ts (tell_ok ti hd (fun _=>xs hX) fun a b c=>(hb a b c).elim)
      refine s_ite (t_andc (tE rfl (kT' rfl (t_andc (t_call (aE rfl (gord_ok w6 hd ⟨fun e=>bad fun a=>?_,fun e1=>t_andc (tE rfl ⟨fun e=>bad fun _ b=>?_,fun e2=>?_⟩)⟩)))))))
      · rw [a] at e; cases e
      · rw [hκ,b] at e; cases e
      refine t_andc (t_cmp (v_bi (a_cons (v_meth rfl ts.tb (noT _ _ _ _ rfl) (a_nil (orders_ok ts ti.ol (a_nil (len_at rfl (lsm (Nat.le_trans ti.ol (by decide))) (vE rfl ⟨fun e=>bad fun _ _ c=>?_,fun e3=>t_andn (s_assign (vE rfl ?_))⟩)))))))))
      · have e:=of_decide_eq_false e
        rw [List.length_map] at e; omega
      · have e2:keptO q d=none:=by
          rw [hκ] at e2
          cases z:keptO q d with
          | none=>rfl
          | some o=>rw [z] at e2; cases e2
        have e3:=of_decide_eq_true e3
        rw [List.length_map] at e3
        refine s_ite (t_andc (tE rfl (kF' rfl (s_ret (v_call (aE rfl (holds_done (R:=fun _=>True) ti ?_ fun σ' _=>hh σ')))))))
        intro Φ X hX
        exact act2 ts (tell_ok ti hd (fun z=>(z e1 e2 (by omega)).elim) fun _ _ _ _ σ' _ _=>ns (hX σ' trivial))
    · have nK:K≠2:=by omega
      have gK:K > 2:=by omega
      have bad:keptO q d=none→vcSs (SS (k+11)) ⟨retX X,none⟩ (p_law_asked.drop 6) [some (.obj q.t),some (.int q.w),some (.int cell),some (.int place),some (.int K),o,some d,some (.bool κ),some (.str "bad order")] σ (retS Φ):=fun hb=>by
        refine s_ret (v_call (aE rfl (holds_fails ti bad_order ?_ (hh σ))))
        intro Φ X hX
        rcases hK with rfl | rfl
        · exact act3 ts (forget_ok ti hd (fun _=>xs hX) fun o ho=>by rw [hb] at ho; cases ho)
        · exact act4 ts (listed_ok ti hd (fun o ho=>by rw [hb] at ho; cases ho) fun _=>xs hX)
      refine s_ite (t_andc (tE rfl (kF' (decide_eq_false nK) (s_ite (t_andc (tE rfl (kT' (decide_eq_true gK) (t_andc (tE rfl ⟨fun e=>bad ?_,fun e=>t_andn (s_assign (vE rfl (s_ret (v_call (aE rfl (holds_done (R:=fun _=>True) ti ?_ fun σ' _=>hh σ'))))))⟩)))))))))
      · rw [hκ] at e
        cases z:keptO q d with
        | none=>rfl
        | some o=>rw [z] at e; cases e
      · intro Φ X hX
        have z:keptO q d=none→False:=fun z=>by rw [hκ,z] at e; cases e
        rcases hK with rfl | rfl
        · exact act3 ts (forget_ok ti hd (fun h=>(z h).elim) fun _ _ _ σ' _=>ns (hX σ' trivial))
        · exact act4 ts (listed_ok ti hd (fun _ _=>ns (hX σ trivial)) fun h=>(z h).elim)
  refine s_assign (v_andG (v_cmp (v_var rfl (v_meth rfl ts.tb (noT _ _ _ _ rfl) (a_nil (orders_ok ts ti.ol (in_any hx hsh fun t ht=>⟨fun e=>rest t ?_,fun e=>v_bop1 (v_call (aE rfl (gord_ok w6 hd (rest _ ?_))))⟩)))))))
  · cases z:isOrd q.w d with
    | false=>rw [e,keptO,z]; rfl
    | true=>exact kept_iff z ht
  · cases z:isOrd q.w d with
    | false=>rw [keptO,z]; rfl
    | true=>exact e.symm.trans (kept_iff z ht)
theorem asked_ok (ti:TI σ q) (st:St q w) (w3:3≤w) {K:Int} (hK:K=2∨K=3∨K=4) (h:∀ σ',Φ (.bool true) σ'):SS (k+12) 76 [.obj q.t,.int w,.int cell,.int place,.int K] σ Φ X:=by
  refine ⟨rfl,(?_:vcSs _ _ p_law_asked [some (.obj q.t),some (.int w),some (.int cell),some (.int place),some (.int K),none,none,none,none] _ _)⟩
  have ew:=st.w
  subst ew
  refine s_ite (tE rfl (cnd (fun _=>?_) fun _=>askT ti hK h))
  refine s_loop (i_of (vE rfl ⟨_,rfl,for_st (g:=dN) (fun l ρ σ'=>∃ (q':Q) (done:List (List Nat)) (c:Option D),TI σ' q'∧q'.w=q.w∧six=done++l∧q'.os.map (·.cols)=[[0],[1,0]]++done∧ρ=[some (.obj q'.t),some (.int q.w),some (.int cell),some (.int place),some (.int K),c,none,none,none]) (fun _ _ _ _=>trivial) ?_ ?_ six ⟨q,[],none,ti,rfl,rfl,st.c,rfl⟩⟩))
  · rintro y l ρ σ' ⟨q',done,c,ti',ew,es,ec,rfl⟩ Ψ hN _
    have nd:=six_nd
    rw [es,← List.append_assoc,← ec] at nd
    have hy:y ∉ q'.os.map (·.cols):=fun z=>(List.nodup_append.mp nd).2.2 y z y List.mem_cons_self rfl
    have io:isOrd q'.w (dN y)=true:=ord_w' (by omega) ti'.tt.w6 y (by rw [es]; simp)
    have ll:q'.os.length<8:=by
      have e1:=congrArg List.length ec
      have e2:=congrArg List.length es
      rw [List.length_map,List.length_append] at e1
      rw [List.length_append,List.length_cons] at e2
      have e3:six.length=6:=rfl
      have e4:([[0],[1,0]]:List (List Nat)).length=2:=rfl
      omega
    have yl:y.length≤100:=by
      have:∀ y∈six,y.length≤100:=by decide
      exact this y (by rw [es]; simp)
    refine s_expr (v_meth rfl ti'.s.tb (noT _ _ _ _ rfl) (aE rfl (tell_ok ti' (nobs_dN yl) (fun z=>(z io (kept_none hy) ll).elim) fun _ _ _ o σ₂ eo t2=>hN _ _ ⟨_,done++[y],_,t2,ew,?_,?_,rfl⟩)))
    · rw [List.append_assoc]; exact es
    · rw [nats_dN] at eo
      show (q'.os++[o]).map (·.cols)=_
      rw [List.map_append,ec,List.append_assoc,← eo]; rfl
  · rintro ρ σ' ⟨q',done,c,ti',ew,es,ec,rfl⟩
    have z:=askT (k:=k) (cell:=cell) (place:=place) (X:=X) ti' hK h (o:=c)
    rw [ew] at z
    exact z
end
theorem TI.mono {σ σ':Store} {q:Q} (ti:TI σ q) (h:Sub σ σ'):TI σ' q:=⟨ti.s.mono h,ti.ok,ti.io,ti.ol,ti.tt⟩
theorem v_rep {S:Nat→Spec} {X:Exs} {ρ:PEnv} {σ:Store} {Ψ:D→Store→Prop} {e e2:PE} {x:Int} {m:Nat} {lp p:Pos} (he:ev ρ e=some (.int x)) (h2:ev ρ e2=some (.int (m:Nat))) (hm:m≤1000) (h:∀ σ',Sub σ σ'→Ψ (.list ((List.replicate m x).map D.int)) σ'):(vc S X (.bin .Mult (.list true [e] lp) e2 p)).v ρ σ Ψ:=by
  refine v_bin (v_mlist (a_cons (vE he (a_nil ⟨rfl,fun a hf=>vE h2 ⟨_,set_at _ _ _,Int.natCast_nonneg _,Int.ofNat_le.mpr (small_ok (Nat.le_trans hm (by decide))),?_,List.cons_ne_nil _ _,?_⟩⟩))))
  · show 1*m≤small
    rw [Nat.one_mul]; exact small_ok (Nat.le_trans hm (by decide))
  · have er:(List.replicate (m:Int).toNat [D.int x]).flatten=(List.replicate m x).map D.int:=by rw [List.map_replicate]; exact List.flatten_replicate_singleton
    rw [er]
    exact h _ (fr_sub hf)
noncomputable def AllN (q:Q):Prop:=q.T.map (·.1)=(List.range q.f).map fun (i:Nat)=>(i:Int)
theorem AllN.len {q:Q} (h:AllN q):q.T.length=q.f:=by
  have:=congrArg List.length h
  rw [List.length_map,List.length_map,List.length_range] at this; exact this
set_option tactic.hygienic true in
theorem AllN.next {q q':Q} {row:List Int} (h:AllN q) (n:Nx q q' (q.T++[((q.f:Int),row)]) (q.f+1)):AllN q':=by
  unfold AllN
  rw [n.T,n.f,List.map_append,h,List.range_succ,List.map_append]; rfl
section
variable {k:Nat} {σ σ':Store} {Φ:D→Store→Prop} {X:Addr→Store→Prop} {w:Nat} {d c v way:D} {R:Store→Prop} {cell place f:Int} {q:Q}
theorem f_full (ti:TI σ q) (hT:q.T.length=200) {row:List Int} (hd:tl d=some (row.map D.int)) (hr:row.length=q.w):Fails (k+9) (.obj q.t) (.int 1) d .none σ 61:=by
  intro Φ X hX
  exact act1 ti.s (put_full ti.s hd ti.tt.w6 hr hT (xs hX))
theorem fullE (ti:TI σ q) (al:AllN q) (hf:q.f=200) (h:∀ σ',Φ (.bool true) σ') {a b c:Option D}:vcSs (SS (k+11)) ⟨retX X,none⟩ (p_law_full.drop 7) [some (.obj q.t),some (.int q.w),some (.int cell),some (.int place),a,b,c] σ (retS Φ):=by
  have hl:=al.len
  have hk:place%200∈q.T.map (·.1):=by
    rw [al,hf]
    exact List.mem_map.mpr ⟨(place%200).toNat,List.mem_range.mpr (tn (em0 _ (by decide)) (em1 _ (by decide))),Int.toNat_of_nonneg (em0 _ (by decide))⟩
  refine s_expr (v_meth rfl ti.s.tb (noT _ _ _ _ rfl) (aE rfl (tdrop_ok ti rfl (fun z=>?_) fun x hx q2 σ2 t2 n2=>?_)))
  · have:=row_some hk
    rw [show rowO q.T (.int (place%200))=none from z] at this; cases this
  have hm:x∈q.T:=List.mem_of_find?_eq_some hx
  obtain ⟨as,bs,eT,eF,_,_⟩:=T_split ti.tt.k hm
  have l2:q2.T.length=199:=by
    rw [n2.T,eF,List.length_append]
    rw [eT,List.length_append,List.length_cons] at hl
    omega
  have w6:=t2.tt.w6
  rw [← n2.t,← n2.w]
  refine s_ret (v_andG (v_cmp (v_meth rfl t2.s.tb (noT _ _ _ _ rfl) (a_cons (v_rep rfl rfl (Nat.le_trans w6 (by decide)) fun σ3 s3=>a_nil (put_ok' (t2.mono s3) rfl (by rw [List.length_replicate]) (by omega) fun q4 σ4 t4 n4=>?_))))))
  have e200:q2.f=200:=by rw [n2.f,hf]
  rw [e200]
  have l4:q4.T.length=200:=by rw [n4.T,List.length_append,l2]; rfl
  have w6:=t4.tt.w6
  refine vE rfl (kT' rfl (v_bop1 (v_call ?_)))
  rw [← n4.t,← n4.w]
  refine a_var rfl (a_cons (vE rfl (a_cons (v_rep rfl rfl (Nat.le_trans w6 (by decide)) fun σ5 s5=>aE rfl ?_))))
  exact holds_fails (t4.mono s5) (wd (61, "full") (by decide +kernel)) (f_full (t4.mono s5) l4 rfl (by rw [List.length_replicate])) (retS_ret (h σ5))
set_option tactic.hygienic true in
theorem fullP (ti:TI σ q) (al:AllN q) (hf:q.f=3) (w1:1≤q.w) (h:∀ σ',Φ (.bool true) σ'):vcSs (SS (k+11)) ⟨retX X,none⟩ (p_law_full.drop 2) [some (.obj q.t),some (.int q.w),some (.int cell),some (.int place),none,none,none] σ (retS Φ):=by
  have ew:∃ w,q.w=w:=⟨_,rfl⟩
  obtain ⟨w,ew⟩:=ew
  rw [ew] at w1 ⊢
  refine s_loop (i_rng (n:=197) (by decide) (by decide) (fun h=>v_cint h) (for_st (g:=fun (i:Nat)=>D.int i) (fun l ρ σ'=>∃ (q':Q) (c:Option D),TI σ' q'∧q'.w=w∧q'.f+l.length=200∧AllN q'∧ρ=[some (.obj q'.t),some (.int w),some (.int cell),some (.int place),c,none,none]) (fun _ _ _ _=>trivial) ?_ ?_ (List.range 197) ⟨q,none,ti,ew,by rw [List.length_range,hf],al,rfl⟩))
  · rintro y l ρ σ' ⟨q',c,t',ew',ef,al',rfl⟩ Ψ hN _
    have hl:=al'.len
    have w6:=t'.tt.w6
    rw [List.length_cons] at ef
    refine s_expr (v_meth rfl t'.s.tb (noT _ _ _ _ rfl) (a_cons (v_rep (m:=w) rfl rfl (Nat.le_trans (ew'▸w6) (by decide:6≤1000)) fun σ3 s3=>a_nil (put_ok' (t'.mono s3) rfl (by rw [List.length_replicate,ew']) (by omega) fun q4 σ4 t4 n4=>hN _ _ ⟨q4,_,t4,n4.w.trans ew',by rw [n4.f]; omega,al'.next n4,by rw [n4.t]; rfl⟩))))
  · rintro ρ σ' ⟨q',c,t',ew',ef,al',rfl⟩
    have w6:=t'.tt.w6
    have hf:q'.f=200:=ef
    have l2:q'.T.length=200:=by rw [al'.len,hf]
    subst ew'
    have fin:∀ (d:D) (C:Nat) (s:Str),(C,s)∈wds→Fails (k+9) (.obj q'.t) (.int 1) d .none σ' C→vcSs (SS (k+11)) ⟨retX X,none⟩ (p_law_full.drop 6) [some (.obj q'.t),some (.int q'.w),some (.int cell),some (.int place),c,some d,some (.str s)] σ' (retS Φ):=fun d C s hC hF=>
      s_ite (t_not (t_call (aE rfl (holds_fails t' hC hF (fullE t' al' hf h)))))
    refine s_assign (v_call (aE rfl (lrow_ok w1 w6 (fun hg d row hd hr=>s_assign (vE rfl (s_ite (tE rfl (cnd (fun _=>s_assign (vE rfl (fin d 61 "full" (wd _ (by decide +kernel)) (f_full t' l2 hd hr)))) fun e=>?_))))) fun hg d hb=>s_assign (vE rfl (s_ite (tE rfl (cnd (fun e=>?_) fun _=>fin d 49 "bad row" (wd _ (by decide +kernel)) fun hX=>act1 t'.s (put_bad t'.s hb (xs hX)))))))))
    · have e:=Bool.or_eq_false_iff.mp e
      rcases hg with hg | ⟨h1,h2⟩
      · exact absurd hg (of_decide_eq_false e.1)
      · rcases Bool.and_eq_false_iff.mp e.2 with z | z
        · exact absurd h1 (of_decide_eq_false z)
        · exact absurd h2 (of_decide_eq_false z)
    · exfalso
      rcases Bool.or_eq_true_iff.mp e with e | e
      · exact hg (.inl (of_decide_eq_true e))
      · exact hg (.inr ⟨of_decide_eq_true (Bool.and_eq_true_iff.mp e).1,of_decide_eq_true (Bool.and_eq_true_iff.mp e).2⟩)
theorem full_ok (ti:TI σ q) (st:St q w) (w3:3≤w) (h:∀ σ',Φ (.bool true) σ'):SS (k+12) 73 [.obj q.t,.int w,.int cell,.int place] σ Φ X:=by
  refine ⟨rfl,(?_:vcSs _ _ p_law_full [some (.obj q.t),some (.int w),some (.int cell),some (.int place),none,none,none] _ _)⟩
  have ew:=st.w
  subst ew
  have io:=ord_w' w3 ti.tt.w6
  have al:AllN q:=by unfold AllN; rw [st.k,st.f]; rfl
  obtain ⟨o1,e1,c1⟩:=kept_some (q:=q) (io [1,0] (by decide)) (by rw [st.c]; decide)
  refine s_expr (v_meth rfl ti.s.tb (noT _ _ _ _ rfl) (aE rfl (forget_ok (d:=dN [1,0]) ti rfl (fun z=>by rw [z] at e1; cases e1) fun o ho k1 σ1 t1=>?_)))
  rw [e1] at ho
  cases ho
  refine s_ite (tE rfl (cnd (fun _=>?_) fun _=>fullP (q:={ q with k:=k1,os:=q.os.filter fun p=>!decide (p.cols=o1.cols) }) t1 al st.f (by show 1≤q.w; omega) h))
  obtain ⟨o2,e2,c2⟩:=kept_some (q:={ q with k:=k1,os:=q.os.filter fun p=>!decide (p.cols=o1.cols) }) (io [0] (by decide)) (by
    have:([0]:List Nat)∈q.os.map (·.cols):=by rw [st.c]; decide
    obtain ⟨o,ho,e⟩:=List.mem_map.mp this
    refine List.mem_map.mpr ⟨o,List.mem_filter.mpr ⟨ho,?_⟩,e⟩
    rw [e,c1]; rfl)
  exact s_expr (v_meth rfl t1.s.tb (noT _ _ _ _ rfl) (aE rfl (forget_ok (q:={ q with k:=k1,os:=q.os.filter fun p=>!decide (p.cols=o1.cols) }) (d:=dN [0]) t1 rfl (fun z=>by rw [z] at e2; cases e2) fun o ho k2 σ2 t2=>fullP (q:={ q with k:=k2,os:=(q.os.filter fun p=>!decide (p.cols=o1.cols)).filter fun p=>!decide (p.cols=o.cols) }) t2 al st.f (by show 1≤q.w; omega) h)))
end
theorem subB {σ:Store} {Ψ:D→Store→Prop} {x y:D} {b:Bool} (h:Ψ (cond b y x) σ):subS (.list [x,y]) (.int (if b then 1 else 0)) σ Ψ:=by
  cases b
  · exact ⟨_,rfl,small_ok (by show 2≤_; decide),.inl ⟨by decide,x,rfl,h⟩⟩
  · exact ⟨_,rfl,small_ok (by show 2≤_; decide),.inl ⟨by decide,y,rfl,h⟩⟩
theorem v_sel {S:Nat→Spec} {X:Exs} {ρ:PEnv} {σ:Store} {Ψ:D→Store→Prop} {a b:Str} {e:PE} {β:Bool} {g:Nat} {p1 p2 p3 lp gp p:Pos} (he:∀ {Ψ:D→Store→Prop},Ψ (.bool β) σ→(vc S X e).v ρ σ Ψ) (h:Ψ (cond β (.str b) (.str a)) σ):(vc S X (.sub (.list false [.cstr a p1,.cstr b p2] lp) (.intb e g gp p3) p)).v ρ σ Ψ:=
  v_sub (vE rfl (v_intb (he (Ψ:=fun d σ'=>truthS d σ' fun b' σ''=>subS (.list [.str a,.str b]) (.int (if b' then 1 else 0)) σ'' Ψ) (subB h))))
section
variable {k:Nat} {σ σ':Store} {Φ:D→Store→Prop} {X:Addr→Store→Prop} {w:Nat} {d c v way:D} {R:Store→Prop} {cell place f:Int} {q:Q} {W:List Tri} {K:Int}
theorem wish_good (ti:TI σ q) (hT:q.T.length<64) (hc:∀ t∈W,t.1<q.w) (hW:W.length≤20) (hK:K=5∨K=6∨K=7∨K=8∨K=9) (hw:7<K→Way q way):Done (k+9) (.obj q.t) (.int K) (.list (W.map triD)) way σ fun _=>True:=by
  intro Φ X hX
  have ts:=ti.s
  have z:fin Φ .none σ:=ns (hX σ trivial)
  rcases hK with rfl | rfl | rfl | rfl | rfl
  · exact act5 ts (costs_ok ti hc hW fun _ _ _ _=>z)
  · exact act6 ts (plan_ok ti hc hW fun _ _=>z)
  · exact act7 ts (ask_ok ti hT hc hW fun _=>z)
  · exact act8 ts (walked_ok ti (hw (by decide)) hc hW fun _ _ _=>z)
  · exact act9 ts (askby_ok ti hT (hw (by decide)) hc hW fun _=>z)
theorem wish_bad (ti:TI σ q) (hb:BadW σ q.w d) (hK:K=5∨K=6∨K=7∨K=8∨K=9) (hw:7<K→Way q way):Fails (k+9) (.obj q.t) (.int K) d way σ 97:=by
  intro Φ X hX
  have ts:=ti.s
  rcases hK with rfl | rfl | rfl | rfl | rfl
  · exact act5 ts (costs_bad ts hb (xs hX))
  · exact act6 ts (plan_bad ts hb (xs hX))
  · exact act7 ts (ask_bad ts hb (xs hX))
  · exact act8 ts (walked_badw ti (hw (by decide)) hb (xs hX))
  · exact act9 ts (askby_err ts (walked_badw ti (hw (by decide)) hb) (xs hX))
theorem wish_ord (ti:TI σ q) (hn:nobs way=true) (hi:isNone way=some false) (ho:keptO q way=none) (hK:K=8∨K=9):Fails (k+9) (.obj q.t) (.int K) d way σ 109:=by
  intro Φ X hX
  rcases hK with rfl | rfl
  · exact act8 ti.s (walked_bado ti hn hi ho (xs hX))
  · exact act9 ti.s (askby_err ti.s (walked_bado ti hn hi ho) (xs hX))
theorem k5_of {x:Int} (h0:0≤x) (h5:x<5):5+x=5∨5+x=6∨5+x=7∨5+x=8∨5+x=9:=by
  obtain ⟨n,rfl⟩:=Int.eq_ofNat_of_zero_le h0
  exact (by decide:∀ n<(5:Nat),5+(n:Int)=5∨5+(n:Int)=6∨5+(n:Int)=7∨5+(n:Int)=8∨5+(n:Int)=9) n (Int.ofNat_lt.mp h5)
theorem k8_of {K:Int} (hK:K=5∨K=6∨K=7∨K=8∨K=9) (h:7<K):K=8∨K=9:=by
  rcases hK with rfl | rfl | rfl | hK
  · cases h
  · cases h
  · cases h
  · exact hK
noncomputable def roads:List D:=[.none,.tuple [.int 0],.tuple [.int 1,.int 0],.tuple [.int 2,.int 1],.list [.int 0],.tuple [.bool true],.tuple [],.int 0,.str "",.list []]
theorem roads_ok (ti:TI σ q) (st:St q w) (w3:3≤w):∀ j (hj:j<roads.length),(j≤2→Way q roads[j])∧(2<j→nobs roads[j]=true∧isNone roads[j]=some false∧keptO q roads[j]=none):=by
  have ew:=st.w
  subst ew
  have wy:∀ y∈([[0],[1,0]]:List (List Nat)),Way q (dN y):=fun y hy=>by
    rw [← st.c] at hy
    obtain ⟨o,ho,rfl⟩:=List.mem_map.mp hy
    exact way_o ti ho
  intro j hj
  match j,hj with
  | 0,_=>exact ⟨fun _ => .inl rfl,fun h=>absurd h (by decide)⟩
  | 1,_=>exact ⟨fun _=>wy [0] (by decide),fun h=>absurd h (by decide)⟩
  | 2,_=>exact ⟨fun _=>wy [1,0] (by decide),fun h=>absurd h (by decide)⟩
  | 3,_=>exact ⟨fun h=>absurd h (by decide),fun _=>⟨rfl,rfl,kept_none (y:=[2,1]) (by rw [st.c]; decide)⟩⟩
  | 4,_=>exact ⟨fun h=>absurd h (by decide),fun _=>⟨rfl,rfl,rfl⟩⟩
  | 5,_=>exact ⟨fun h=>absurd h (by decide),fun _=>⟨rfl,rfl,rfl⟩⟩
  | 6,_=>exact ⟨fun h=>absurd h (by decide),fun _=>⟨rfl,rfl,rfl⟩⟩
  | 7,_=>exact ⟨fun h=>absurd h (by decide),fun _=>⟨rfl,rfl,rfl⟩⟩
  | 8,_=>exact ⟨fun h=>absurd h (by decide),fun _=>⟨rfl,rfl,rfl⟩⟩
  | 9,_=>exact ⟨fun h=>absurd h (by decide),fun _=>⟨rfl,rfl,rfl⟩⟩
  | j+10,hj=>exact absurd hj (Nat.not_lt.mpr (Nat.le_add_left 10 j))
variable {ns:List Int}
noncomputable abbrev envL (ns:List Int) (w:Nat) (t:Addr) (c:Option D):PEnv:=[some (.list (ns.map D.int)),some (.int w),some (.int (atF ns 2)),some (.int (atF ns 3)),some (.obj t),c,some (.int (atF ns 4%12)),none,none,none,none]
theorem lawW (ti:TI σ q) (st:St q w) (w3:3≤w) (hl:ns.length≤1000) (h:∀ σ',Φ (.bool true) σ') {c:Option D}:vcSs (SS (k+12)) ⟨retX X,none⟩ (p_law.drop 13) (envL ns w q.t c) σ (retS Φ):=by
  have rk:=roads_ok ti st w3
  have ew:=st.w
  subst ew
  have hh:∀ σ',retS Φ (.ret (.bool true) σ'):=fun σ'=>retS_ret (h σ')
  have hT:q.T.length<64:=by
    have:=congrArg List.length st.k
    rw [List.length_map] at this
    rw [this]; decide
  refine s_assign (v_bin (vE rfl (v_bin (v_bin (v_call (aE rfl (at_ok (j:=4) hl (vE rfl (ar_ok rfl (vE rfl (ar_ok rfl (addI ?_))))))))))))
  obtain ⟨K,eK,hK⟩:∃ K:Int,5+atF ns 4 / 12%5=K∧(K=5∨K=6∨K=7∨K=8∨K=9):=⟨_,rfl,k5_of (em0 _ (by decide)) (em1 _ (by decide))⟩
  rw [eK]
  refine s_assign (v_sub (vE rfl (v_bin (v_call (aE rfl (at_ok (j:=5) hl (vE rfl (modI (by decide) (subM (xs:=roads) (Nat.le_of_ble_eq_true rfl) (em0 _ (by decide)) (em1 _ (by decide)) fun j hj ej=>?_)))))))))
  obtain ⟨r1,r2⟩:=rk j hj
  generalize roads[j]=road at r1 r2 ⊢
  refine s_assign (v_sel (β:=gW (atF ns 2) (atF ns 3)) (fun h=>v_call (aE rfl (gwish_ok h))) ?_)
  have last:∀ (s:Str),(gW (atF ns 2) (atF ns 3)=true→¬ (7<K∧2<j)→s = "given")→(gW (atF ns 2) (atF ns 3)=false→¬ (7<K∧2<j)→s = "bad wish")→((7<K∧2<j)→s = "bad order")→vcSs (SS (k+12)) ⟨retX X,none⟩ (p_law.drop 17) [some (.list (ns.map D.int)),some (.int q.w),some (.int (atF ns 2)),some (.int (atF ns 3)),some (.obj q.t),c,some (.int (atF ns 4%12)),some (.str s),none,some (.int K),some road] σ (retS Φ):=by
    intro s s1 s2 s3
    refine s_ret (v_call (a_var rfl (a_var rfl (a_cons (v_call (aE rfl (lwish_ok ti.tt.w1 (fun hg W hc hW=>aE rfl ?_) fun hg d σ' hs hb=>aE rfl ?_)))))))
    · by_cases z:7<K∧2<j
      · rw [s3 z]
        obtain ⟨a,b,c⟩:=r2 z.2
        exact holds_fails ti bad_order (wish_ord ti a b c (k8_of hK z.1)) (hh _)
      · rw [s1 hg z]
        exact holds_done ti (wish_good ti hT hc hW hK fun h7=>r1 (Nat.not_lt.mp fun z'=>z ⟨h7,z'⟩)) fun σ' _=>hh σ'
    · have ti':=ti.mono hs
      by_cases z:7<K∧2<j
      · rw [s3 z]
        obtain ⟨a,b,c⟩:=r2 z.2
        exact holds_fails ti' bad_order (wish_ord ti' a b c (k8_of hK z.1)) (hh _)
      · rw [s2 hg z]
        exact holds_fails ti' (wd (97, "bad wish") (by decide +kernel)) (wish_bad ti' hb hK fun h7=>r1 (Nat.not_lt.mp fun z'=>z ⟨h7,z'⟩)) (hh _)
  have step:∀ (s:Str),(gW (atF ns 2) (atF ns 3)=true→s = "given")→(gW (atF ns 2) (atF ns 3)=false→s = "bad wish")→vcSs (SS (k+12)) ⟨retX X,none⟩ (p_law.drop 16) [some (.list (ns.map D.int)),some (.int q.w),some (.int (atF ns 2)),some (.int (atF ns 3)),some (.obj q.t),c,some (.int (atF ns 4%12)),some (.str s),none,some (.int K),some road] σ (retS Φ):=by
    intro s s1 s2
    refine s_ite (t_andc (tE rfl ⟨fun e=>?_,fun e=>t_andc (t_cmp (v_bin (v_call (aE rfl (at_ok (j:=5) hl (vE rfl (modI (by decide) (vE rfl ⟨fun e'=>?_,fun e'=>t_andn (s_assign (vE rfl ?_))⟩))))))))⟩))
    · have z:¬ (7<K∧2<j):=fun z=>of_decide_eq_false (p:=K > 7) e z.1
      exact last s (fun h _=>s1 h) (fun h _=>s2 h) fun h=>absurd h z
    · have z:¬ (7<K∧2<j):=fun z=>of_decide_eq_false (p:=atF ns 5%10 > 2) e' (by rw [ej]; exact Int.ofNat_lt.mpr z.2)
      exact last s (fun h _=>s1 h) (fun h _=>s2 h) fun h=>absurd h z
    · have z:7<K∧2<j:=⟨of_decide_eq_true (p:=K > 7) e,by have:=of_decide_eq_true (p:=atF ns 5%10 > 2) e'; rw [ej] at this; exact Int.ofNat_lt.mp this⟩
      exact last "bad order" (fun _ h=>absurd z h) (fun _ h=>absurd z h) fun _=>rfl
  cases e:gW (atF ns 2) (atF ns 3) with
  | true=>exact step "given" (fun _=>rfl) fun h=>by rw [e] at h; cases h
  | false=>exact step "bad wish" (fun h=>by rw [e] at h; cases h) fun _=>rfl
end
section
variable {k:Nat} {σ σ':Store} {Φ:D→Store→Prop} {X:Addr→Store→Prop} {w:Nat} {d c v way:D} {R:Store→Prop} {cell place f:Int} {q:Q} {W:List Tri} {K:Int} {ns:List Int}
set_option tactic.hygienic true in
theorem law1 (ti:TI σ q) (h:∀ σ',Φ (.bool true) σ') {o:Option D}:vcSs (SS (k+12)) ⟨retX X,none⟩ (p_law.drop 10|>fun | .ite _ b _ _::_=>b | _=>[]) (envL ns w q.t o) σ (retS Φ):=by
  refine s_assign (v_sel (β:=decide (atF ns 2%8=7)) (fun h=>vE rfl h) ?_)
  have hh:∀ σ',retS Φ (.ret (.bool true) σ'):=fun σ'=>retS_ret (h σ')
  by_cases z:atF ns 2%8=7
  · rw [decide_eq_true z]
    refine s_ret (v_call (a_var rfl (a_cons (vE rfl (a_cons (v_call (aE rfl (width_ok (fun _ w' h1 h6=>aE rfl (holds_done (R:=fun _=>True) ti ?_ fun σ' _=>hh σ')) fun e=>absurd z e))))))))
    intro Φ X hX
    exact act0 fun a dx ha _ _=>init_ok (set_at _ _ _) h1 h6 fun d k σ' _=>⟨rfl,ns' (hX σ' trivial)⟩
  · rw [decide_eq_false z]
    refine s_ret (v_call (a_var rfl (a_cons (vE rfl (a_cons (v_call (aE rfl (width_ok (fun e=>absurd e z) fun _ d h1 h6=>aE rfl (holds_fails ti (wd (37, "bad width") (by decide +kernel)) ?_ (hh σ))))))))))
    intro Φ X hX
    exact act0 fun a dx ha _ _=>init_bad (q:=⟨a,dx,0,0,0,[],0,[]⟩) (set_at _ _ _) h1 h6 ⟨σ,fr_sub ha,hX⟩
where ns' {Φ:D→Store→Prop} {ρ:PEnv} {σ:Store} (h:Φ .none σ):retS Φ (.next ρ σ):=L08.ns h
theorem law2 (ti:TI σ q) (st:St q w) (h:∀ σ',Φ (.bool true) σ') {o:Option D}:vcSs (SS (k+12)) ⟨retX X,none⟩ (p_law.drop 11|>fun | .ite _ b _ _::_=>b | _=>[]) (envL ns w q.t o) σ (retS Φ):=by
  have ew:=st.w
  subst ew
  have w6:=ti.tt.w6
  have l3:q.T.length=3:=by
    have:=congrArg List.length st.k
    rw [List.length_map] at this; exact this
  obtain ⟨b,eb⟩:∃ b:Bool,(decide (atF ns 2%9=8) || (decide (atF ns 2%9=7)&&decide (atF ns 3 / 6%2=0)))=b:=⟨_,rfl⟩
  refine s_assign (vE (d := .bool b) (by rw [← eb]; rfl) ?_)
  refine s_assign (v_sel (β:=b) (fun h=>v_var rfl h) ?_)
  have hb:b=true ↔ (atF ns 2%9=8∨(atF ns 2%9=7∧atF ns 3 / 6%2=0)):=by
    rw [← eb,Bool.or_eq_true,Bool.and_eq_true,decide_eq_true_iff,decide_eq_true_iff,decide_eq_true_iff]
  have last:∀ {q':Q} {σ':Store} {s:D},TI σ' q'→q'.t=q.t→q'.w=q.w→q'.T.length<200→(q'.f:Int)=3+(if b then 1 else 0)→vcSs (SS (k+12)) ⟨retX X,none⟩ (p_law.drop 11|>fun | .ite _ b _ _::_=>b.drop 3 | _=>[]) [some (.list (ns.map D.int)),some (.int q.w),some (.int (atF ns 2)),some (.int (atF ns 3)),some (.obj q.t),o,some (.int (atF ns 4%12)),some s,some (.bool b),none,none] σ' (retS Φ):=by
    intro q' σ' s t' e1 e2 hl hf
    rw [← e1,← e2]
    have w6:=t'.tt.w6
    refine s_ret (v_cmp (v_meth rfl t'.s.tb (noT _ _ _ _ rfl) (a_cons (v_rep rfl rfl (by omega) fun σ3 s3=>a_nil (put_ok' (t'.mono s3) rfl (by rw [List.length_replicate]) hl fun q4 σ4 t4 n4=>?_)))))
    rw [hf]
    refine vE rfl ?_
    show retS Φ (.ret (.bool (decide (_=_))) σ4)
    rw [decide_eq_true rfl]
    exact retS_ret (h σ4)
  cases b with
  | true=>
    refine s_ite (t_not (t_call (a_var rfl (a_cons (vE rfl (a_cons (v_call (aE rfl (lrow_ok ti.tt.w1 w6 (fun _ d row hd hr=>aE rfl (holds_done (R:=fun σ'=>∃ q',TI σ' q'∧Nx q q' (q.T++[((q.f:Int),row)]) (q.f+1)) ti ?_ fun σ' hR=>?_)) fun e=>absurd (hb.mp rfl) e)))))))))
    · intro Φ X hX
      exact act1 ti.s (put_ok' ti hd hr (by omega) fun q' σ' t' n'=>law1.ns' (hX σ' ⟨q',t',n'⟩))
    · obtain ⟨q',t',n'⟩:=hR
      exact last t' n'.t n'.w (by rw [n'.T,List.length_append,l3]; show 3+1<200; decide) (by rw [n'.f,st.f]; rfl)
  | false=>
    have nb:¬ (atF ns 2%9=8∨(atF ns 2%9=7∧atF ns 3 / 6%2=0)):=fun z=>by cases hb.mpr z
    refine s_ite (t_not (t_call (a_var rfl (a_cons (vE rfl (a_cons (v_call (aE rfl (lrow_ok ti.tt.w1 w6 (fun e=>absurd e nb) fun _ d hd=>aE rfl (holds_fails ti (wd (49, "bad row") (by decide +kernel)) (fun hX=>act1 ti.s (put_bad ti.s hd (xs hX))) ?_))))))))))
    exact last ti rfl rfl (by omega) (by rw [st.f]; rfl)
theorem lawT (ti:TI σ q) (st:St q w) (w3:3≤w) (hl:ns.length≤1000) (h:∀ σ',Φ (.bool true) σ') {o:Option D}:vcSs (SS (k+12)) ⟨retX X,none⟩ (p_law.drop 7) [some (.list (ns.map D.int)),some (.int w),some (.int (atF ns 2)),some (.int (atF ns 3)),some (.obj q.t),o,none,none,none,none,none] σ (retS Φ):=by
  have hh:∀ σ',retS Φ (.ret (.bool true) σ'):=fun σ'=>retS_ret (h σ')
  refine s_assign (v_bin (v_call (aE rfl (at_ok (j:=4) hl (vE rfl (modI (by decide) ?_))))))
  refine s_ite (tE rfl (cnd (fun _=>s_ret (v_call (aE rfl (full_ok ti st w3 hh)))) fun _=>?_))
  refine s_ite (tE rfl (cnd (fun _=>?_) fun _=>?_))
  · refine s_ret (v_call (a_var rfl (a_var rfl (a_var rfl (a_var rfl (a_cons (v_sub (vE rfl (v_bin (v_bin (v_call (aE rfl (at_ok (j:=4) hl (vE rfl (ar_ok rfl (vE rfl (ar_ok rfl (subQ rfl (em0 _ (by decide)) (em1 _ (by decide)) ⟨a_nil (changed_ok ti st w3 (.inl rfl) hh),a_nil (changed_ok ti st w3 (.inl rfl) hh),a_nil (changed_ok ti st w3 (.inl rfl) hh),a_nil (changed_ok ti st w3 (.inr rfl) hh),trivial⟩))))))))))))))))))
  refine s_ite (tE rfl (cnd (fun _=>?_) fun _=>?_))
  · exact law1 (w:=w) ti h
  refine s_ite (tE rfl (cnd (fun _=>?_) fun _=>?_))
  · exact law2 ti st h
  refine s_ite (tE rfl (cnd (fun _=>?_) fun _=>lawW ti st w3 hl h))
  refine s_ret (v_call (a_var rfl (a_var rfl (a_var rfl (a_var rfl (a_cons (v_sub (vE rfl (v_bin (v_bin (v_call (aE rfl (at_ok (j:=4) hl (vE rfl (ar_ok rfl (vE rfl (ar_ok rfl (subQ rfl (em0 _ (by decide)) (em1 _ (by decide)) ⟨a_nil (asked_ok ti st w3 (.inl rfl) hh),a_nil (asked_ok ti st w3 (.inl rfl) hh),a_nil (asked_ok ti st w3 (.inr (.inl rfl)) hh),a_nil (asked_ok ti st w3 (.inr (.inr rfl)) hh),trivial⟩))))))))))))))))))
theorem w_of {x:Int} (h0:0≤x) (h4:x<4):∃ w:Nat,3+x=w∧3≤w∧w≤6:=by
  obtain ⟨n,rfl⟩:=Int.eq_ofNat_of_zero_le h0
  exact ⟨3+n,rfl,Nat.le_add_right _ _,Nat.add_le_add_left (Nat.le_of_lt_succ (Int.ofNat_lt.mp h4)) 3⟩
theorem f3_of {t f l:Nat} (h:t=f) (e:f+(l+1)=3):t<200:=by
  rw [h]; exact Nat.lt_of_le_of_lt (Nat.le_add_right f (l+1)) (by rw [e]; decide)
set_option tactic.hygienic true in
theorem law_ok (hl:ns.length≤1000) (h:∀ σ',Φ (.bool true) σ'):SS (k+13) 79 [.list (ns.map D.int)] σ Φ X:=by
  refine ⟨rfl,(?_:vcSs _ _ p_law [some (.list (ns.map D.int)),none,none,none,none,none,none,none,none,none,none] _ _)⟩
  refine s_assign (v_bin (vE rfl (v_bin (v_call (aE rfl (at_ok (j:=0) hl (vE rfl (modI (by decide) (addI ?_)))))))))
  obtain ⟨w,ew,w3,w6⟩:∃ w:Nat,3+atF ns 0%4=w∧3≤w∧w≤6:=w_of (em0 _ (by decide)) (em1 _ (by decide))
  rw [ew]
  refine s_assign (v_call (aE rfl (at_ok (j:=2) hl (s_assign (v_call (aE rfl (at_ok (j:=3) hl (s_assign (v_new (aE rfl fun a dx ha _ _=>init_ok (set_at _ _ _) (Nat.le_trans (by decide) w3) w6 fun d1 k1 σ1 t1=>⟨rfl,?_⟩))))))))))
  have io:=ord_w' w3 w6
  refine s_expr (v_meth rfl t1.s.tb (noT _ _ _ _ rfl) (aE rfl (tell_ok (d:=dN [0]) t1 rfl (fun z=>(z (io [0] (by decide)) (kept_none nofun) (by show 0<8; decide)).elim) fun _ _ _ o2 σ2 c2 t2=>?_)))
  refine s_loop (i_rng (n:=3) (by decide) (by decide) (fun h=>v_cint h) (for_st (g:=fun (i:Nat)=>D.int i) (fun l ρ σ'=>∃ (q':Q) (c:Option D),TI σ' q'∧q'.w=w∧q'.f+l.length=3∧AllN q'∧q'.os.map (·.cols)=[[0]]∧ρ=[some (.list (ns.map D.int)),some (.int w),some (.int (atF ns 2)),some (.int (atF ns 3)),some (.obj q'.t),c,none,none,none,none,none]) (fun _ _ _ _=>trivial) ?_ ?_ (List.range 3) ⟨_,none,t2,rfl,rfl,rfl,by show [o2.cols]=_; rw [c2]; rfl,rfl⟩))
  · rintro y l ρ σ' ⟨q',c,t',ew',ef,al',ec,rfl⟩ Ψ hN _
    have hT:=al'.len
    rw [List.length_cons] at ef
    have e2:((w:Int) - 2)=((w - 2:Nat):Int):=(Int.ofNat_sub (Nat.le_trans (by decide) w3)).symm
    have w2:w - 2≤6:=Nat.le_trans (Nat.sub_le _ _) w6
    refine s_expr (v_meth rfl t'.s.tb (noT _ _ _ _ rfl) (a_cons (v_bin (v_list (a_cons (v_bin (v_call (aE rfl (at_ok (j:=1) hl (vE rfl (modI (by decide) (a_var rfl (a_nil ⟨rfl,?_⟩)))))))))))))
    refine v_rep (m:=w - 2) rfl (by rw [← e2]; rfl) (Nat.le_trans w2 (by decide)) fun σ3 s3=>add_list ?_ (a_nil ?_)
    · rw [List.length_map,List.length_replicate]; exact Nat.le_trans (Nat.add_le_add_left w2 2) (by decide)
    · refine put_ok' (row:=[atF ns 1%3,(y:Int)]++List.replicate (w - 2) 0) (t'.mono s3) (by rw [List.map_append]; rfl) (by rw [List.length_append,List.length_replicate,ew']; show 2+(w - 2)=w; exact Nat.add_sub_cancel' (Nat.le_trans (by decide) w3)) (f3_of hT ef) fun q4 σ4 t4 n4=>hN _ _ ⟨q4,_,t4,n4.w.trans ew',by rw [n4.f,Nat.add_assoc,Nat.add_comm 1]; exact ef,al'.next n4,n4.c.trans ec,by rw [n4.t]; rfl⟩
  · rintro ρ σ' ⟨q',c,t',ew',ef,al',ec,rfl⟩
    have hf:q'.f=3:=ef
    refine s_expr (v_meth rfl t'.s.tb (noT _ _ _ _ rfl) (aE rfl (tell_ok (d:=dN [1,0]) t' rfl (fun z=>(z (by rw [ew']; exact io [1,0] (by decide)) (kept_none (by rw [ec]; decide)) ?_).elim) fun _ _ _ o4 σ4 c4 t4=>?_)))
    · have:=congrArg List.length ec
      rw [List.length_map] at this
      rw [this]; decide
    · refine lawT (q:={ q' with os:=q'.os++[o4] }) t4 ⟨ew',?_,hf,?_⟩ w3 hl h
      · have z:q'.T.map (·.1)=_:=al'
        rw [hf] at z; exact z
      · show (q'.os++[o4]).map (·.cols)=_
        rw [List.map_append,ec,List.map_singleton,c4]; rfl
end
end Mine.L08
end
section
open PySem PySem.W PySem.Calls PyProof.Rows
set_option maxRecDepth 100000
namespace Mine
noncomputable def topG (thr:Thread→Bool) (ok:Thread→Bool) (st:SharedT→Thread→Option (SharedT×Thread)) (M:Nat):SharedT→Thread→Option SharedT:=
  @Nat.rec (fun _=>SharedT→Thread→Option SharedT) (fun _ _=>none)
    (fun _ ih s t=>@Bool.rec (fun _=>Option SharedT) (@Bool.rec (fun _=>Option SharedT) none ((st s t).bind fun r=>ih r.1 r.2) (ok t)) (some s) (thr t)) M
theorem topG_of {tb:String→Option Builtin} {p:Program} {w:World} {n₀:Nat} {ann:Option Value}:∀ {n:Nat} {s s':SharedT} {t:Thread},
    topG through (stepOk n₀ ann) (stepT (denote tb) p w) n s t=some s'→topRun tb p w n₀ ann n s.abs t=some s'.abs
  | 0,_,_,_,h=>by cases h
  | n + 1,s,s',t,h=>by
    have h':@Bool.rec (fun _=>Option SharedT) (@Bool.rec (fun _=>Option SharedT) none ((stepT (denote tb) p w s t).bind fun r=>topG through (stepOk n₀ ann) (stepT (denote tb) p w) n r.1 r.2) (stepOk n₀ ann t)) (some s) (through t)=some s':=h
    unfold topRun
    cases ht:through t with
    | true=>rw [ht] at h'; exact congrArg (Option.map SharedT.abs) h'
    | false=>
      rw [ht] at h'
      cases hk:stepOk n₀ ann t with
      | false=>rw [hk] at h'; cases h'
      | true=>
        rw [hk] at h'
        obtain ⟨⟨s₂,t₂⟩,hs,hr⟩:=Option.bind_eq_some_iff.mp h'
        show (match step (denote tb) p w s.abs t with | .go s' t'=>topRun tb p w n₀ ann n s' t' | .halt _ _=>none)=_
        rw [stepT_spec hs]
        exact topG_of hr
theorem left_of_tree {p q:Program} {loose:List Str} {Xt:Shared→Bool} {α:Type} {Yf:Shared→α} {Ya:World→α} {N:Nat} {g0:Bool} {T₀:Params→BT} {m₀ M:Nat} {li:Life} {ann:Option Value}
    (e:opening p=plainProg p.main.scope.names) (hN:Nat.ble 600 N=true) (f:∀ s,fenceModules? p s=some s) (t0:∀ P,absHeap (T₀ P) m₀ li=boot_heap P)
    (size:∀ P,((boot_heap P).isNs mainGlobals,(boot_heap P).objs.size,(boot_heap P).nsMap mainGlobals "__annotations__")=(true,m₀,ann)) (le:Nat.ble M N=true)
    (run:∀ w:World,(fun os=>(topG through (stepOk m₀ ann) (stepT (denote treeTable) p w) M ⟨T₀ w.params,m₀,li,Array.mk [],boot_drawn,boot_toks,os⟩ (topStub p)).map (fun s=>
        ((staticsOk (importedModules p.main.body) (boot_heap w.params) s.abs.heap&&namesBound p s.abs.heap&&gensDone s.abs&&laidKept (boot_heap w.params) s.abs.heap),
          openSeen q loose (importedModules p.main.body) Xt g0 s.abs,Yf s.abs)))=fun _=>some (true,openGood q loose,Ya w)):LeftO p q loose Xt Yf Ya N g0:=fun w=>by
  obtain ⟨⟨h,gs,d,k,os⟩,e,e'⟩:=Option.map_eq_some_iff.mp (boot_open e hN f w)
  obtain ⟨rfl,rfl,rfl,rfl⟩:h=boot_heap w.params∧gs=Array.mk []∧d=boot_drawn∧k=boot_toks:=by simpa using e'
  obtain ⟨z1,z2,z3⟩:_∧_∧_:=by simpa only [Prod.mk.injEq] using size w.params
  obtain ⟨s,hs,l⟩:=Option.map_eq_some_iff.mp (congrFun (run w) os)
  obtain ⟨l1,l2,l3⟩:_∧_∧_:=by simpa only [Prod.mk.injEq] using l
  have r:=topRun_mono (N - M) _ _ _ _ (topG_of hs)
  rw [show M+(N - M)=N by have:=Nat.le_of_ble_eq_true le; omega] at r
  have ea:SharedT.abs ⟨T₀ w.params,m₀,li,Array.mk [],boot_drawn,boot_toks,os⟩=⟨boot_heap w.params,Array.mk [],boot_drawn,boot_toks,os⟩:=by unfold SharedT.abs; rw [t0]
  rw [ea] at r
  have t:topFrom treeTable p w N ⟨boot_heap w.params,Array.mk [],boot_drawn,boot_toks,os⟩=some s.abs:=by
    unfold topFrom
    dsimp only
    rw [z1,z2,z3,r]
    show (match staticsOk (importedModules p.main.body) (boot_heap w.params) s.abs.heap&&namesBound p s.abs.heap&&gensDone s.abs&&laidKept (boot_heap w.params) s.abs.heap with | true=>_ | false=>_)=_
    rw [l1]
  unfold openEnds
  rw [e]
  show (topFrom treeTable p w N _).map _=_
  rw [t]
  exact congrArg some (Prod.ext l2 l3)
noncomputable def sAt:List Stmt→List Nat→Stmt
  | ss,[i]=>ss.getD i (.Pass default)
  | ss,i::r=>match ss.getD i (.Pass default) with
    | .ClassDef _ _ _ body ..=>sAt body r
    | s=>s
  | _,[] => .Pass default
noncomputable def fob (st:Stmt) (qn:Str) (doc mod code:Value):Obj:=match st with
  | .FunctionDef name args body _ _ _ scope _ _ _=>⟨.type "function",none,.func ⟨name,qn,args,.stmts body,scope,3,[],.none,.none,doc,mod,none,code,.none,0⟩,#[]⟩
  | _=>default
end Mine
end
section
open PySem PySem.W PySem.Calls PyProof.Rows
set_option Elab.async false
namespace Mine.L08
set_option maxRecDepth 100000
set_option maxHeartbeats 8000000
set_option linter.unusedVariables false
noncomputable def o2:Params→Obj:=fun P=>Obj.mk .none none (.dict #[]) #[]
noncomputable def o3:Params→Obj:=fun P=>Obj.mk (.type "dict") none (.dict #[DictEntry.mk (PyData.keyHash P "__name__") (.str "__name__" 165) (.str "law_uf040016_08" 707),DictEntry.mk (PyData.keyHash P "__doc__") (.str "__doc__" 166) .none,DictEntry.mk (PyData.keyHash P "__package__") (.str "__package__" 167) .none,DictEntry.mk (PyData.keyHash P "__loader__") (.str "__loader__" 168) (.builtin "__main__.__loader__#opaque"),DictEntry.mk (PyData.keyHash P "__spec__") (.str "__spec__" 169) .none,DictEntry.mk (PyData.keyHash P "__annotations__") (.str "__annotations__" 170) (.ref 6),DictEntry.mk (PyData.keyHash P "__builtins__") (.str "__builtins__" 171) (.ref 4),DictEntry.mk (PyData.keyHash P "__file__") (.str "__file__" 173) (.str "/claim/cut.py" 172),DictEntry.mk (PyData.keyHash P "__cached__") (.str "__cached__" 174) .none,DictEntry.mk (PyData.keyHash P "BookError") (.str "BookError" 206) (.ref 24),DictEntry.mk (PyData.keyHash P "BadWidth") (.str "BadWidth" 222) (.ref 37),DictEntry.mk (PyData.keyHash P "BadRow") (.str "BadRow" 238) (.ref 49),DictEntry.mk (PyData.keyHash P "Full") (.str "Full" 254) (.ref 61),DictEntry.mk (PyData.keyHash P "NoRow") (.str "NoRow" 270) (.ref 73),DictEntry.mk (PyData.keyHash P "BadColumn") (.str "BadColumn" 286) (.ref 85),DictEntry.mk (PyData.keyHash P "BadWish") (.str "BadWish" 302) (.ref 97),DictEntry.mk (PyData.keyHash P "BadOrder") (.str "BadOrder" 318) (.ref 109),DictEntry.mk (PyData.keyHash P "is_whole") (.str "is_whole" 327) (.ref 118),DictEntry.mk (PyData.keyHash P "less") (.str "less" 336) (.ref 125),DictEntry.mk (PyData.keyHash P "below") (.str "below" 347) (.ref 132),DictEntry.mk (PyData.keyHash P "fits") (.str "fits" 359) (.ref 139),DictEntry.mk (PyData.keyHash P "merged") (.str "merged" 365) (.ref 144),DictEntry.mk (PyData.keyHash P "triple_of") (.str "triple_of" 376) (.ref 151),DictEntry.mk (PyData.keyHash P "Kept") (.str "Kept" 472) (.ref 218),DictEntry.mk (PyData.keyHash P "MOST_WIDTH") (.str "MOST_WIDTH" 476) (.int 6 475),DictEntry.mk (PyData.keyHash P "MOST_ROWS") (.str "MOST_ROWS" 478) (.int 200 477),DictEntry.mk (PyData.keyHash P "MOST_TRIPLES") (.str "MOST_TRIPLES" 480) (.int 20 479),DictEntry.mk (PyData.keyHash P "MOST_ORDERS") (.str "MOST_ORDERS" 482) (.int 8 481),DictEntry.mk (PyData.keyHash P "is_end") (.str "is_end" 489) (.ref 229),DictEntry.mk (PyData.keyHash P "Table") (.str "Table" 706) (.ref 387),DictEntry.mk (PyData.keyHash P "_law_at") (.str "_law_at" 716) (.ref 398),DictEntry.mk (PyData.keyHash P "_law_act") (.str "_law_act" 726) (.ref 405),DictEntry.mk (PyData.keyHash P "_law_said") (.str "_law_said" 736) (.ref 412),DictEntry.mk (PyData.keyHash P "_law_any") (.str "_law_any" 748) (.ref 419),DictEntry.mk (PyData.keyHash P "_law_width") (.str "_law_width" 756) (.ref 426),DictEntry.mk (PyData.keyHash P "_law_row") (.str "_law_row" 762) (.ref 431),DictEntry.mk (PyData.keyHash P "_law_order") (.str "_law_order" 774) (.ref 438),DictEntry.mk (PyData.keyHash P "_law_good_order") (.str "_law_good_order" 783) (.ref 445),DictEntry.mk (PyData.keyHash P "_law_wish") (.str "_law_wish" 789) (.ref 450),DictEntry.mk (PyData.keyHash P "_law_good_wish") (.str "_law_good_wish" 797) (.ref 457),DictEntry.mk (PyData.keyHash P "_law_state") (.str "_law_state" 803) (.ref 462),DictEntry.mk (PyData.keyHash P "_law_holds") (.str "_law_holds" 815) (.ref 469),DictEntry.mk (PyData.keyHash P "_law_changed") (.str "_law_changed" 830) (.ref 476),DictEntry.mk (PyData.keyHash P "_law_full") (.str "_law_full" 843) (.ref 483),DictEntry.mk (PyData.keyHash P "_law_asked") (.str "_law_asked" 858) (.ref 490),DictEntry.mk (PyData.keyHash P "law") (.str "law" 875) (.ref 497)] 46) #[]
noncomputable def o23:Params→Obj:=fun P=>Obj.mk (.type "dict") none (.dict #[DictEntry.mk (PyData.keyHash P "__module__") (.str "__module__" 196) (.str "waybook.errors" 187),DictEntry.mk (PyData.keyHash P "__firstlineno__") (.str "__firstlineno__" 200) (.int 2 199),DictEntry.mk (PyData.keyHash P "__static_attributes__") (.str "__static_attributes__" 201) (.ref 22),DictEntry.mk (PyData.keyHash P "__weakref__") (.str "__weakref__" 203) (.ref 25),DictEntry.mk (PyData.keyHash P "__doc__") (.str "__doc__" 204) .none] 3) #[]
noncomputable def o24:Params→Obj:=fun P=>Obj.mk (.type "type") none (.cls (ClassData.mk "BookError" [.type "ValueError"] [.ref 24,.type "ValueError",.type "Exception",.type "BaseException",.type "object"] 23 "BookError" true [] [.ref 37,.ref 49,.ref 61,.ref 73,.ref 85,.ref 97,.ref 109] false none false)) #[some (.ref 15),none,some (.str "BookError" 189),some (.str "BookError" 197),some (.builtin "ValueError.__new__"),some (.bool true)]
noncomputable def o25:Params→Obj:=fun P=>Obj.mk (.type "getset_descriptor") none (.fields #[.str "__weakref__" 202,.ref 24,.builtin "ExceptionGroup.__weakref__",.none]) #[]
noncomputable def o36:Params→Obj:=fun P=>Obj.mk (.type "dict") none (.dict #[DictEntry.mk (PyData.keyHash P "__module__") (.str "__module__" 214) (.str "waybook.errors" 187),DictEntry.mk (PyData.keyHash P "__firstlineno__") (.str "__firstlineno__" 218) (.int 4 217),DictEntry.mk (PyData.keyHash P "__static_attributes__") (.str "__static_attributes__" 219) (.ref 35),DictEntry.mk (PyData.keyHash P "__doc__") (.str "__doc__" 220) .none] 2) #[]
noncomputable def o37:Params→Obj:=fun P=>Obj.mk (.type "type") none (.cls (ClassData.mk "BadWidth" [.ref 24] [.ref 37,.ref 24,.type "ValueError",.type "Exception",.type "BaseException",.type "object"] 36 "BadWidth" true [] [] false none false)) #[some (.ref 28),none,some (.str "BadWidth" 207),some (.str "BadWidth" 215),some (.builtin "ValueError.__new__"),some (.bool true)]
noncomputable def o48:Params→Obj:=fun P=>Obj.mk (.type "dict") none (.dict #[DictEntry.mk (PyData.keyHash P "__module__") (.str "__module__" 230) (.str "waybook.errors" 187),DictEntry.mk (PyData.keyHash P "__firstlineno__") (.str "__firstlineno__" 234) (.int 6 233),DictEntry.mk (PyData.keyHash P "__static_attributes__") (.str "__static_attributes__" 235) (.ref 47),DictEntry.mk (PyData.keyHash P "__doc__") (.str "__doc__" 236) .none] 2) #[]
noncomputable def o49:Params→Obj:=fun P=>Obj.mk (.type "type") none (.cls (ClassData.mk "BadRow" [.ref 24] [.ref 49,.ref 24,.type "ValueError",.type "Exception",.type "BaseException",.type "object"] 48 "BadRow" true [] [] false none false)) #[some (.ref 40),none,some (.str "BadRow" 223),some (.str "BadRow" 231),some (.builtin "ValueError.__new__"),some (.bool true)]
noncomputable def o60:Params→Obj:=fun P=>Obj.mk (.type "dict") none (.dict #[DictEntry.mk (PyData.keyHash P "__module__") (.str "__module__" 246) (.str "waybook.errors" 187),DictEntry.mk (PyData.keyHash P "__firstlineno__") (.str "__firstlineno__" 250) (.int 8 249),DictEntry.mk (PyData.keyHash P "__static_attributes__") (.str "__static_attributes__" 251) (.ref 59),DictEntry.mk (PyData.keyHash P "__doc__") (.str "__doc__" 252) .none] 2) #[]
noncomputable def o61:Params→Obj:=fun P=>Obj.mk (.type "type") none (.cls (ClassData.mk "Full" [.ref 24] [.ref 61,.ref 24,.type "ValueError",.type "Exception",.type "BaseException",.type "object"] 60 "Full" true [] [] false none false)) #[some (.ref 52),none,some (.str "Full" 239),some (.str "Full" 247),some (.builtin "ValueError.__new__"),some (.bool true)]
noncomputable def o72:Params→Obj:=fun P=>Obj.mk (.type "dict") none (.dict #[DictEntry.mk (PyData.keyHash P "__module__") (.str "__module__" 262) (.str "waybook.errors" 187),DictEntry.mk (PyData.keyHash P "__firstlineno__") (.str "__firstlineno__" 266) (.int 10 265),DictEntry.mk (PyData.keyHash P "__static_attributes__") (.str "__static_attributes__" 267) (.ref 71),DictEntry.mk (PyData.keyHash P "__doc__") (.str "__doc__" 268) .none] 2) #[]
noncomputable def o73:Params→Obj:=fun P=>Obj.mk (.type "type") none (.cls (ClassData.mk "NoRow" [.ref 24] [.ref 73,.ref 24,.type "ValueError",.type "Exception",.type "BaseException",.type "object"] 72 "NoRow" true [] [] false none false)) #[some (.ref 64),none,some (.str "NoRow" 255),some (.str "NoRow" 263),some (.builtin "ValueError.__new__"),some (.bool true)]
noncomputable def o84:Params→Obj:=fun P=>Obj.mk (.type "dict") none (.dict #[DictEntry.mk (PyData.keyHash P "__module__") (.str "__module__" 278) (.str "waybook.errors" 187),DictEntry.mk (PyData.keyHash P "__firstlineno__") (.str "__firstlineno__" 282) (.int 12 281),DictEntry.mk (PyData.keyHash P "__static_attributes__") (.str "__static_attributes__" 283) (.ref 83),DictEntry.mk (PyData.keyHash P "__doc__") (.str "__doc__" 284) .none] 2) #[]
noncomputable def o85:Params→Obj:=fun P=>Obj.mk (.type "type") none (.cls (ClassData.mk "BadColumn" [.ref 24] [.ref 85,.ref 24,.type "ValueError",.type "Exception",.type "BaseException",.type "object"] 84 "BadColumn" true [] [] false none false)) #[some (.ref 76),none,some (.str "BadColumn" 271),some (.str "BadColumn" 279),some (.builtin "ValueError.__new__"),some (.bool true)]
noncomputable def o96:Params→Obj:=fun P=>Obj.mk (.type "dict") none (.dict #[DictEntry.mk (PyData.keyHash P "__module__") (.str "__module__" 294) (.str "waybook.errors" 187),DictEntry.mk (PyData.keyHash P "__firstlineno__") (.str "__firstlineno__" 298) (.int 14 297),DictEntry.mk (PyData.keyHash P "__static_attributes__") (.str "__static_attributes__" 299) (.ref 95),DictEntry.mk (PyData.keyHash P "__doc__") (.str "__doc__" 300) .none] 2) #[]
noncomputable def o97:Params→Obj:=fun P=>Obj.mk (.type "type") none (.cls (ClassData.mk "BadWish" [.ref 24] [.ref 97,.ref 24,.type "ValueError",.type "Exception",.type "BaseException",.type "object"] 96 "BadWish" true [] [] false none false)) #[some (.ref 88),none,some (.str "BadWish" 287),some (.str "BadWish" 295),some (.builtin "ValueError.__new__"),some (.bool true)]
noncomputable def o108:Params→Obj:=fun P=>Obj.mk (.type "dict") none (.dict #[DictEntry.mk (PyData.keyHash P "__module__") (.str "__module__" 310) (.str "waybook.errors" 187),DictEntry.mk (PyData.keyHash P "__firstlineno__") (.str "__firstlineno__" 314) (.int 16 313),DictEntry.mk (PyData.keyHash P "__static_attributes__") (.str "__static_attributes__" 315) (.ref 107),DictEntry.mk (PyData.keyHash P "__doc__") (.str "__doc__" 316) .none] 2) #[]
noncomputable def o109:Params→Obj:=fun P=>Obj.mk (.type "type") none (.cls (ClassData.mk "BadOrder" [.ref 24] [.ref 109,.ref 24,.type "ValueError",.type "Exception",.type "BaseException",.type "object"] 108 "BadOrder" true [] [] false none false)) #[some (.ref 100),none,some (.str "BadOrder" 303),some (.str "BadOrder" 311),some (.builtin "ValueError.__new__"),some (.bool true)]
noncomputable def o117:Params→Obj:=fun P=>Obj.mk (.type "code") none (.fields #[.str "is_whole" 321,.str "is_whole" 322,.str "/claim/cut.py" 323,.int 19 0,.int 1 0,.int 0 0,.int 0 0,.int 3 0,.ref 112,.bool true,.int 181 0,.ref 113,.none,.ref 114,.ref 115,.ref 116,.int 325 0,.int 19 0,.str "/claim/cut.py" 326]) #[]
noncomputable def o118:Params→Obj:=fun _=>fob (sAt PySem.Challenge.pw_uf040016_08.main.body [10]) "is_whole" (.none) (.str "waybook.keys" 319) (.ref 117)
noncomputable def o124:Params→Obj:=fun P=>Obj.mk (.type "code") none (.fields #[.str "less" 328,.str "less" 329,.str "/claim/cut.py" 330,.int 21 0,.int 2 0,.int 0 0,.int 0 0,.int 3 0,.ref 119,.bool true,.int 181 0,.ref 120,.none,.ref 121,.ref 122,.ref 123,.int 334 0,.int 21 0,.str "/claim/cut.py" 335]) #[]
noncomputable def o125:Params→Obj:=fun _=>fob (sAt PySem.Challenge.pw_uf040016_08.main.body [11]) "less" (.none) (.str "waybook.keys" 319) (.ref 124)
noncomputable def o131:Params→Obj:=fun P=>Obj.mk (.type "code") none (.fields #[.str "below" 337,.str "below" 338,.str "/claim/cut.py" 339,.int 26 0,.int 2 0,.int 0 0,.int 0 0,.int 3 0,.ref 126,.bool true,.int 181 0,.ref 127,.none,.ref 128,.ref 129,.ref 130,.int 345 0,.int 26 0,.str "/claim/cut.py" 346]) #[]
noncomputable def o132:Params→Obj:=fun _=>fob (sAt PySem.Challenge.pw_uf040016_08.main.body [12]) "below" (.none) (.str "waybook.keys" 319) (.ref 131)
noncomputable def o138:Params→Obj:=fun P=>Obj.mk (.type "code") none (.fields #[.str "fits" 350,.str "fits" 351,.str "/claim/cut.py" 352,.int 37 0,.int 2 0,.int 0 0,.int 0 0,.int 3 0,.ref 133,.bool true,.int 181 0,.ref 134,.none,.ref 135,.ref 136,.ref 137,.int 357 0,.int 37 0,.str "/claim/cut.py" 358]) #[]
noncomputable def o139:Params→Obj:=fun _=>fob (sAt PySem.Challenge.pw_uf040016_08.main.body [14]) "fits" (.none) (.str "waybook.wishes" 348) (.ref 138)
noncomputable def o143:Params→Obj:=fun P=>Obj.mk (.type "code") none (.fields #[.str "merged" 360,.str "merged" 361,.str "/claim/cut.py" 362,.int 45 0,.int 1 0,.int 0 0,.int 0 0,.int 3 0,.ref 140,.bool true,.int 181 0,.ref 141,.none,.none,.none,.ref 142,.int 363 0,.int 45 0,.str "/claim/cut.py" 364]) #[]
noncomputable def o144:Params→Obj:=fun _=>fob (sAt PySem.Challenge.pw_uf040016_08.main.body [15]) "merged" (.none) (.str "waybook.wishes" 348) (.ref 143)
noncomputable def o150:Params→Obj:=fun P=>Obj.mk (.type "code") none (.fields #[.str "triple_of" 368,.str "triple_of" 369,.str "/claim/cut.py" 370,.int 53 0,.int 2 0,.int 0 0,.int 0 0,.int 3 0,.ref 145,.bool true,.int 181 0,.ref 146,.none,.ref 147,.ref 148,.ref 149,.int 374 0,.int 53 0,.str "/claim/cut.py" 375]) #[]
noncomputable def o151:Params→Obj:=fun _=>fob (sAt PySem.Challenge.pw_uf040016_08.main.body [17]) "triple_of" (.none) (.str "waybook.orders" 366) (.ref 150)
noncomputable def o164:Params→Obj:=fun P=>Obj.mk (.type "code") none (.fields #[.str "__init__" 389,.str "Kept.__init__" 390,.str "/claim/cut.py" 391,.int 60 0,.int 2 0,.int 0 0,.int 0 0,.int 3 0,.ref 159,.bool true,.int 181 0,.ref 160,.none,.ref 161,.ref 162,.ref 163,.int 394 0,.int 60 0,.str "/claim/cut.py" 395]) #[]
noncomputable def o165:Params→Obj:=fun _=>fob (sAt PySem.Challenge.pw_uf040016_08.main.body [18,0]) "Kept.__init__" (.none) (.str "waybook.orders" 366) (.ref 164)
noncomputable def o169:Params→Obj:=fun P=>Obj.mk (.type "code") none (.fields #[.str "entry_of" 397,.str "Kept.entry_of" 398,.str "/claim/cut.py" 399,.int 64 0,.int 3 0,.int 0 0,.int 0 0,.int 3 0,.ref 166,.bool true,.int 181 0,.ref 167,.none,.none,.none,.ref 168,.int 400 0,.int 64 0,.str "/claim/cut.py" 401]) #[]
noncomputable def o170:Params→Obj:=fun _=>fob (sAt PySem.Challenge.pw_uf040016_08.main.body [18,1]) "Kept.entry_of" (.none) (.str "waybook.orders" 366) (.ref 169)
noncomputable def o176:Params→Obj:=fun P=>Obj.mk (.type "code") none (.fields #[.str "put" 403,.str "Kept.put" 404,.str "/claim/cut.py" 405,.int 67 0,.int 3 0,.int 0 0,.int 0 0,.int 3 0,.ref 171,.bool true,.int 181 0,.ref 172,.none,.ref 173,.ref 174,.ref 175,.int 410 0,.int 67 0,.str "/claim/cut.py" 411]) #[]
noncomputable def o177:Params→Obj:=fun _=>fob (sAt PySem.Challenge.pw_uf040016_08.main.body [18,2]) "Kept.put" (.none) (.str "waybook.orders" 366) (.ref 176)
noncomputable def o183:Params→Obj:=fun P=>Obj.mk (.type "code") none (.fields #[.str "drop" 413,.str "Kept.drop" 414,.str "/claim/cut.py" 415,.int 71 0,.int 3 0,.int 0 0,.int 0 0,.int 3 0,.ref 178,.bool true,.int 181 0,.ref 179,.none,.ref 180,.ref 181,.ref 182,.int 419 0,.int 71 0,.str "/claim/cut.py" 420]) #[]
noncomputable def o184:Params→Obj:=fun _=>fob (sAt PySem.Challenge.pw_uf040016_08.main.body [18,3]) "Kept.drop" (.none) (.str "waybook.orders" 366) (.ref 183)
noncomputable def o188:Params→Obj:=fun P=>Obj.mk (.type "code") none (.fields #[.str "numbers" 422,.str "Kept.numbers" 423,.str "/claim/cut.py" 424,.int 74 0,.int 1 0,.int 0 0,.int 0 0,.int 3 0,.ref 185,.bool true,.int 181 0,.ref 186,.none,.none,.none,.ref 187,.int 425 0,.int 74 0,.str "/claim/cut.py" 426]) #[]
noncomputable def o189:Params→Obj:=fun _=>fob (sAt PySem.Challenge.pw_uf040016_08.main.body [18,4]) "Kept.numbers" (.none) (.str "waybook.orders" 366) (.ref 188)
noncomputable def o195:Params→Obj:=fun P=>Obj.mk (.type "code") none (.fields #[.str "bounds" 428,.str "Kept.bounds" 429,.str "/claim/cut.py" 430,.int 77 0,.int 2 0,.int 0 0,.int 0 0,.int 3 0,.ref 190,.bool true,.int 181 0,.ref 191,.none,.ref 192,.ref 193,.ref 194,.int 437 0,.int 77 0,.str "/claim/cut.py" 438]) #[]
noncomputable def o196:Params→Obj:=fun _=>fob (sAt PySem.Challenge.pw_uf040016_08.main.body [18,5]) "Kept.bounds" (.none) (.str "waybook.orders" 366) (.ref 195)
noncomputable def o202:Params→Obj:=fun P=>Obj.mk (.type "code") none (.fields #[.str "behind" 440,.str "Kept.behind" 441,.str "/claim/cut.py" 442,.int 87 0,.int 2 0,.int 0 0,.int 0 0,.int 3 0,.ref 197,.bool true,.int 181 0,.ref 198,.none,.ref 199,.ref 200,.ref 201,.int 445 0,.int 87 0,.str "/claim/cut.py" 446]) #[]
noncomputable def o203:Params→Obj:=fun _=>fob (sAt PySem.Challenge.pw_uf040016_08.main.body [18,6]) "Kept.behind" (.none) (.str "waybook.orders" 366) (.ref 202)
noncomputable def o207:Params→Obj:=fun P=>Obj.mk (.type "code") none (.fields #[.str "stretch" 448,.str "Kept.stretch" 449,.str "/claim/cut.py" 450,.int 92 0,.int 2 0,.int 0 0,.int 0 0,.int 3 0,.ref 204,.bool true,.int 181 0,.ref 205,.none,.none,.none,.ref 206,.int 451 0,.int 92 0,.str "/claim/cut.py" 452]) #[]
noncomputable def o208:Params→Obj:=fun _=>fob (sAt PySem.Challenge.pw_uf040016_08.main.body [18,7]) "Kept.stretch" (.none) (.str "waybook.orders" 366) (.ref 207)
noncomputable def o214:Params→Obj:=fun P=>Obj.mk (.type "code") none (.fields #[.str "covers" 454,.str "Kept.covers" 455,.str "/claim/cut.py" 456,.int 104 0,.int 2 0,.int 0 0,.int 0 0,.int 3 0,.ref 209,.bool true,.int 181 0,.ref 210,.none,.ref 211,.ref 212,.ref 213,.int 460 0,.int 104 0,.str "/claim/cut.py" 461]) #[]
noncomputable def o215:Params→Obj:=fun _=>fob (sAt PySem.Challenge.pw_uf040016_08.main.body [18,8]) "Kept.covers" (.none) (.str "waybook.orders" 366) (.ref 214)
noncomputable def o217:Params→Obj:=fun P=>Obj.mk (.type "dict") none (.dict #[DictEntry.mk (PyData.keyHash P "__module__") (.str "__module__" 384) (.str "waybook.orders" 366),DictEntry.mk (PyData.keyHash P "__firstlineno__") (.str "__firstlineno__" 388) (.int 58 387),DictEntry.mk (PyData.keyHash P "__init__") (.str "__init__" 396) (.ref 165),DictEntry.mk (PyData.keyHash P "entry_of") (.str "entry_of" 402) (.ref 170),DictEntry.mk (PyData.keyHash P "put") (.str "put" 412) (.ref 177),DictEntry.mk (PyData.keyHash P "drop") (.str "drop" 421) (.ref 184),DictEntry.mk (PyData.keyHash P "numbers") (.str "numbers" 427) (.ref 189),DictEntry.mk (PyData.keyHash P "bounds") (.str "bounds" 439) (.ref 196),DictEntry.mk (PyData.keyHash P "behind") (.str "behind" 447) (.ref 203),DictEntry.mk (PyData.keyHash P "stretch") (.str "stretch" 453) (.ref 208),DictEntry.mk (PyData.keyHash P "covers") (.str "covers" 462) (.ref 215),DictEntry.mk (PyData.keyHash P "__static_attributes__") (.str "__static_attributes__" 465) (.ref 216),DictEntry.mk (PyData.keyHash P "__dict__") (.str "__dict__" 467) (.ref 219),DictEntry.mk (PyData.keyHash P "__weakref__") (.str "__weakref__" 469) (.ref 220),DictEntry.mk (PyData.keyHash P "__doc__") (.str "__doc__" 470) .none] 4) #[]
noncomputable def o218:Params→Obj:=fun P=>Obj.mk (.type "type") none (.cls (ClassData.mk "Kept" [.type "object"] [.ref 218,.type "object"] 217 "Kept" true [] [] false none false)) #[none,none,some (.str "Kept" 377),some (.str "Kept" 385),some (.builtin "object.__new__"),some (.bool true)]
noncomputable def o219:Params→Obj:=fun P=>Obj.mk (.type "getset_descriptor") none (.fields #[.str "__dict__" 466,.ref 218,.builtin "function.__dict__",.builtin "function.__dict__#set"]) #[]
noncomputable def o220:Params→Obj:=fun P=>Obj.mk (.type "getset_descriptor") none (.fields #[.str "__weakref__" 468,.ref 218,.builtin "ExceptionGroup.__weakref__",.none]) #[]
noncomputable def o228:Params→Obj:=fun P=>Obj.mk (.type "code") none (.fields #[.str "is_end" 483,.str "is_end" 484,.str "/claim/cut.py" 485,.int 114 0,.int 1 0,.int 0 0,.int 0 0,.int 3 0,.ref 223,.bool true,.int 181 0,.ref 224,.none,.ref 225,.ref 226,.ref 227,.int 487 0,.int 114 0,.str "/claim/cut.py" 488]) #[]
noncomputable def o229:Params→Obj:=fun _=>fob (sAt PySem.Challenge.pw_uf040016_08.main.body [24]) "is_end" (.none) (.str "waybook.table" 473) (.ref 228)
noncomputable def o242:Params→Obj:=fun P=>Obj.mk (.type "code") none (.fields #[.str "__init__" 502,.str "Table.__init__" 503,.str "/claim/cut.py" 504,.int 118 0,.int 2 0,.int 0 0,.int 0 0,.int 3 0,.ref 237,.bool true,.int 181 0,.ref 238,.none,.ref 239,.ref 240,.ref 241,.int 507 0,.int 118 0,.str "/claim/cut.py" 508]) #[]
noncomputable def o243:Params→Obj:=fun _=>fob (sAt PySem.Challenge.pw_uf040016_08.main.body [25,0]) "Table.__init__" (.none) (.str "waybook.table" 473) (.ref 242)
noncomputable def o249:Params→Obj:=fun P=>Obj.mk (.type "code") none (.fields #[.str "has_column" 510,.str "Table.has_column" 511,.str "/claim/cut.py" 512,.int 126 0,.int 2 0,.int 0 0,.int 0 0,.int 3 0,.ref 244,.bool true,.int 181 0,.ref 245,.none,.ref 246,.ref 247,.ref 248,.int 515 0,.int 126 0,.str "/claim/cut.py" 516]) #[]
noncomputable def o250:Params→Obj:=fun _=>fob (sAt PySem.Challenge.pw_uf040016_08.main.body [25,1]) "Table.has_column" (.none) (.str "waybook.table" 473) (.ref 249)
noncomputable def o256:Params→Obj:=fun P=>Obj.mk (.type "code") none (.fields #[.str "need_row" 518,.str "Table.need_row" 519,.str "/claim/cut.py" 520,.int 129 0,.int 2 0,.int 0 0,.int 0 0,.int 3 0,.ref 251,.bool true,.int 181 0,.ref 252,.none,.ref 253,.ref 254,.ref 255,.int 523 0,.int 129 0,.str "/claim/cut.py" 524]) #[]
noncomputable def o257:Params→Obj:=fun _=>fob (sAt PySem.Challenge.pw_uf040016_08.main.body [25,2]) "Table.need_row" (.none) (.str "waybook.table" 473) (.ref 256)
noncomputable def o263:Params→Obj:=fun P=>Obj.mk (.type "code") none (.fields #[.str "is_triple" 526,.str "Table.is_triple" 527,.str "/claim/cut.py" 528,.int 133 0,.int 2 0,.int 0 0,.int 0 0,.int 3 0,.ref 258,.bool true,.int 181 0,.ref 259,.none,.ref 260,.ref 261,.ref 262,.int 531 0,.int 133 0,.str "/claim/cut.py" 532]) #[]
noncomputable def o264:Params→Obj:=fun _=>fob (sAt PySem.Challenge.pw_uf040016_08.main.body [25,3]) "Table.is_triple" (.none) (.str "waybook.table" 473) (.ref 263)
noncomputable def o270:Params→Obj:=fun P=>Obj.mk (.type "code") none (.fields #[.str "need_wish" 534,.str "Table.need_wish" 535,.str "/claim/cut.py" 536,.int 138 0,.int 2 0,.int 0 0,.int 0 0,.int 3 0,.ref 265,.bool true,.int 181 0,.ref 266,.none,.ref 267,.ref 268,.ref 269,.int 540 0,.int 138 0,.str "/claim/cut.py" 541]) #[]
noncomputable def o271:Params→Obj:=fun _=>fob (sAt PySem.Challenge.pw_uf040016_08.main.body [25,4]) "Table.need_wish" (.none) (.str "waybook.table" 473) (.ref 270)
noncomputable def o277:Params→Obj:=fun P=>Obj.mk (.type "code") none (.fields #[.str "is_order" 543,.str "Table.is_order" 544,.str "/claim/cut.py" 545,.int 145 0,.int 2 0,.int 0 0,.int 0 0,.int 3 0,.ref 272,.bool true,.int 181 0,.ref 273,.none,.ref 274,.ref 275,.ref 276,.int 549 0,.int 145 0,.str "/claim/cut.py" 550]) #[]
noncomputable def o278:Params→Obj:=fun _=>fob (sAt PySem.Challenge.pw_uf040016_08.main.body [25,5]) "Table.is_order" (.none) (.str "waybook.table" 473) (.ref 277)
noncomputable def o284:Params→Obj:=fun P=>Obj.mk (.type "code") none (.fields #[.str "kept_of" 552,.str "Table.kept_of" 553,.str "/claim/cut.py" 554,.int 153 0,.int 2 0,.int 0 0,.int 0 0,.int 3 0,.ref 279,.bool true,.int 181 0,.ref 280,.none,.ref 281,.ref 282,.ref 283,.int 558 0,.int 153 0,.str "/claim/cut.py" 559]) #[]
noncomputable def o285:Params→Obj:=fun _=>fob (sAt PySem.Challenge.pw_uf040016_08.main.body [25,6]) "Table.kept_of" (.none) (.str "waybook.table" 473) (.ref 284)
noncomputable def o291:Params→Obj:=fun P=>Obj.mk (.type "code") none (.fields #[.str "put" 561,.str "Table.put" 562,.str "/claim/cut.py" 563,.int 160 0,.int 2 0,.int 0 0,.int 0 0,.int 3 0,.ref 286,.bool true,.int 181 0,.ref 287,.none,.ref 288,.ref 289,.ref 290,.int 569 0,.int 160 0,.str "/claim/cut.py" 570]) #[]
noncomputable def o292:Params→Obj:=fun _=>fob (sAt PySem.Challenge.pw_uf040016_08.main.body [25,7]) "Table.put" (.none) (.str "waybook.table" 473) (.ref 291)
noncomputable def o298:Params→Obj:=fun P=>Obj.mk (.type "code") none (.fields #[.str "drop" 572,.str "Table.drop" 573,.str "/claim/cut.py" 574,.int 175 0,.int 2 0,.int 0 0,.int 0 0,.int 3 0,.ref 293,.bool true,.int 181 0,.ref 294,.none,.ref 295,.ref 296,.ref 297,.int 579 0,.int 175 0,.str "/claim/cut.py" 580]) #[]
noncomputable def o299:Params→Obj:=fun _=>fob (sAt PySem.Challenge.pw_uf040016_08.main.body [25,8]) "Table.drop" (.none) (.str "waybook.table" 473) (.ref 298)
noncomputable def o305:Params→Obj:=fun P=>Obj.mk (.type "code") none (.fields #[.str "change" 582,.str "Table.change" 583,.str "/claim/cut.py" 584,.int 181 0,.int 4 0,.int 0 0,.int 0 0,.int 3 0,.ref 300,.bool true,.int 181 0,.ref 301,.none,.ref 302,.ref 303,.ref 304,.int 592 0,.int 181 0,.str "/claim/cut.py" 593]) #[]
noncomputable def o306:Params→Obj:=fun _=>fob (sAt PySem.Challenge.pw_uf040016_08.main.body [25,9]) "Table.change" (.none) (.str "waybook.table" 473) (.ref 305)
noncomputable def o312:Params→Obj:=fun P=>Obj.mk (.type "code") none (.fields #[.str "row" 595,.str "Table.row" 596,.str "/claim/cut.py" 597,.int 194 0,.int 2 0,.int 0 0,.int 0 0,.int 3 0,.ref 307,.bool true,.int 181 0,.ref 308,.none,.ref 309,.ref 310,.ref 311,.int 600 0,.int 194 0,.str "/claim/cut.py" 601]) #[]
noncomputable def o313:Params→Obj:=fun _=>fob (sAt PySem.Challenge.pw_uf040016_08.main.body [25,10]) "Table.row" (.none) (.str "waybook.table" 473) (.ref 312)
noncomputable def o319:Params→Obj:=fun P=>Obj.mk (.type "code") none (.fields #[.str "numbers" 603,.str "Table.numbers" 604,.str "/claim/cut.py" 605,.int 198 0,.int 1 0,.int 0 0,.int 0 0,.int 3 0,.ref 314,.bool true,.int 181 0,.ref 315,.none,.ref 316,.ref 317,.ref 318,.int 607 0,.int 198 0,.str "/claim/cut.py" 608]) #[]
noncomputable def o320:Params→Obj:=fun _=>fob (sAt PySem.Challenge.pw_uf040016_08.main.body [25,11]) "Table.numbers" (.none) (.str "waybook.table" 473) (.ref 319)
noncomputable def o326:Params→Obj:=fun P=>Obj.mk (.type "code") none (.fields #[.str "tell" 610,.str "Table.tell" 611,.str "/claim/cut.py" 612,.int 201 0,.int 2 0,.int 0 0,.int 0 0,.int 3 0,.ref 321,.bool true,.int 181 0,.ref 322,.none,.ref 323,.ref 324,.ref 325,.int 617 0,.int 201 0,.str "/claim/cut.py" 618]) #[]
noncomputable def o327:Params→Obj:=fun _=>fob (sAt PySem.Challenge.pw_uf040016_08.main.body [25,12]) "Table.tell" (.none) (.str "waybook.table" 473) (.ref 326)
noncomputable def o331:Params→Obj:=fun P=>Obj.mk (.type "code") none (.fields #[.str "forget" 620,.str "Table.forget" 621,.str "/claim/cut.py" 622,.int 213 0,.int 2 0,.int 0 0,.int 0 0,.int 3 0,.ref 328,.bool true,.int 181 0,.ref 329,.none,.none,.none,.ref 330,.int 623 0,.int 213 0,.str "/claim/cut.py" 624]) #[]
noncomputable def o332:Params→Obj:=fun _=>fob (sAt PySem.Challenge.pw_uf040016_08.main.body [25,13]) "Table.forget" (.none) (.str "waybook.table" 473) (.ref 331)
noncomputable def o336:Params→Obj:=fun P=>Obj.mk (.type "code") none (.fields #[.str "orders" 626,.str "Table.orders" 627,.str "/claim/cut.py" 628,.int 217 0,.int 1 0,.int 0 0,.int 0 0,.int 3 0,.ref 333,.bool true,.int 181 0,.ref 334,.none,.none,.none,.ref 335,.int 629 0,.int 217 0,.str "/claim/cut.py" 630]) #[]
noncomputable def o337:Params→Obj:=fun _=>fob (sAt PySem.Challenge.pw_uf040016_08.main.body [25,14]) "Table.orders" (.none) (.str "waybook.table" 473) (.ref 336)
noncomputable def o343:Params→Obj:=fun P=>Obj.mk (.type "code") none (.fields #[.str "listed" 632,.str "Table.listed" 633,.str "/claim/cut.py" 634,.int 220 0,.int 2 0,.int 0 0,.int 0 0,.int 3 0,.ref 338,.bool true,.int 181 0,.ref 339,.none,.ref 340,.ref 341,.ref 342,.int 637 0,.int 220 0,.str "/claim/cut.py" 638]) #[]
noncomputable def o344:Params→Obj:=fun _=>fob (sAt PySem.Challenge.pw_uf040016_08.main.body [25,15]) "Table.listed" (.none) (.str "waybook.table" 473) (.ref 343)
noncomputable def o350:Params→Obj:=fun P=>Obj.mk (.type "code") none (.fields #[.str "cost_of" 640,.str "Table.cost_of" 641,.str "/claim/cut.py" 642,.int 223 0,.int 3 0,.int 0 0,.int 0 0,.int 3 0,.ref 345,.bool true,.int 181 0,.ref 346,.none,.ref 347,.ref 348,.ref 349,.int 647 0,.int 223 0,.str "/claim/cut.py" 648]) #[]
noncomputable def o351:Params→Obj:=fun _=>fob (sAt PySem.Challenge.pw_uf040016_08.main.body [25,16]) "Table.cost_of" (.none) (.str "waybook.table" 473) (.ref 350)
noncomputable def o357:Params→Obj:=fun P=>Obj.mk (.type "code") none (.fields #[.str "costs" 650,.str "Table.costs" 651,.str "/claim/cut.py" 652,.int 229 0,.int 2 0,.int 0 0,.int 0 0,.int 3 0,.ref 352,.bool true,.int 181 0,.ref 353,.none,.ref 354,.ref 355,.ref 356,.int 657 0,.int 229 0,.str "/claim/cut.py" 658]) #[]
noncomputable def o358:Params→Obj:=fun _=>fob (sAt PySem.Challenge.pw_uf040016_08.main.body [25,17]) "Table.costs" (.none) (.str "waybook.table" 473) (.ref 357)
noncomputable def o364:Params→Obj:=fun P=>Obj.mk (.type "code") none (.fields #[.str "plan" 660,.str "Table.plan" 661,.str "/claim/cut.py" 662,.int 236 0,.int 2 0,.int 0 0,.int 0 0,.int 3 0,.ref 359,.bool true,.int 181 0,.ref 360,.none,.ref 361,.ref 362,.ref 363,.int 668 0,.int 236 0,.str "/claim/cut.py" 669]) #[]
noncomputable def o365:Params→Obj:=fun _=>fob (sAt PySem.Challenge.pw_uf040016_08.main.body [25,18]) "Table.plan" (.none) (.str "waybook.table" 473) (.ref 364)
noncomputable def o371:Params→Obj:=fun P=>Obj.mk (.type "code") none (.fields #[.str "walked" 671,.str "Table.walked" 672,.str "/claim/cut.py" 673,.int 244 0,.int 3 0,.int 0 0,.int 0 0,.int 3 0,.ref 366,.bool true,.int 181 0,.ref 367,.none,.ref 368,.ref 369,.ref 370,.int 678 0,.int 244 0,.str "/claim/cut.py" 679]) #[]
noncomputable def o372:Params→Obj:=fun _=>fob (sAt PySem.Challenge.pw_uf040016_08.main.body [25,19]) "Table.walked" (.none) (.str "waybook.table" 473) (.ref 371)
noncomputable def o376:Params→Obj:=fun P=>Obj.mk (.type "code") none (.fields #[.str "ask_by" 681,.str "Table.ask_by" 682,.str "/claim/cut.py" 683,.int 252 0,.int 3 0,.int 0 0,.int 0 0,.int 3 0,.ref 373,.bool true,.int 181 0,.ref 374,.none,.none,.none,.ref 375,.int 684 0,.int 252 0,.str "/claim/cut.py" 685]) #[]
noncomputable def o377:Params→Obj:=fun _=>fob (sAt PySem.Challenge.pw_uf040016_08.main.body [25,20]) "Table.ask_by" (.none) (.str "waybook.table" 473) (.ref 376)
noncomputable def o383:Params→Obj:=fun P=>Obj.mk (.type "code") none (.fields #[.str "ask" 687,.str "Table.ask" 688,.str "/claim/cut.py" 689,.int 255 0,.int 2 0,.int 0 0,.int 0 0,.int 3 0,.ref 378,.bool true,.int 181 0,.ref 379,.none,.ref 380,.ref 381,.ref 382,.int 692 0,.int 255 0,.str "/claim/cut.py" 693]) #[]
noncomputable def o384:Params→Obj:=fun _=>fob (sAt PySem.Challenge.pw_uf040016_08.main.body [25,21]) "Table.ask" (.none) (.str "waybook.table" 473) (.ref 383)
noncomputable def o386:Params→Obj:=fun P=>Obj.mk (.type "dict") none (.dict #[DictEntry.mk (PyData.keyHash P "__module__") (.str "__module__" 497) (.str "waybook.table" 473),DictEntry.mk (PyData.keyHash P "__firstlineno__") (.str "__firstlineno__" 501) (.int 116 500),DictEntry.mk (PyData.keyHash P "__init__") (.str "__init__" 509) (.ref 243),DictEntry.mk (PyData.keyHash P "has_column") (.str "has_column" 517) (.ref 250),DictEntry.mk (PyData.keyHash P "need_row") (.str "need_row" 525) (.ref 257),DictEntry.mk (PyData.keyHash P "is_triple") (.str "is_triple" 533) (.ref 264),DictEntry.mk (PyData.keyHash P "need_wish") (.str "need_wish" 542) (.ref 271),DictEntry.mk (PyData.keyHash P "is_order") (.str "is_order" 551) (.ref 278),DictEntry.mk (PyData.keyHash P "kept_of") (.str "kept_of" 560) (.ref 285),DictEntry.mk (PyData.keyHash P "put") (.str "put" 571) (.ref 292),DictEntry.mk (PyData.keyHash P "drop") (.str "drop" 581) (.ref 299),DictEntry.mk (PyData.keyHash P "change") (.str "change" 594) (.ref 306),DictEntry.mk (PyData.keyHash P "row") (.str "row" 602) (.ref 313),DictEntry.mk (PyData.keyHash P "numbers") (.str "numbers" 609) (.ref 320),DictEntry.mk (PyData.keyHash P "tell") (.str "tell" 619) (.ref 327),DictEntry.mk (PyData.keyHash P "forget") (.str "forget" 625) (.ref 332),DictEntry.mk (PyData.keyHash P "orders") (.str "orders" 631) (.ref 337),DictEntry.mk (PyData.keyHash P "listed") (.str "listed" 639) (.ref 344),DictEntry.mk (PyData.keyHash P "cost_of") (.str "cost_of" 649) (.ref 351),DictEntry.mk (PyData.keyHash P "costs") (.str "costs" 659) (.ref 358),DictEntry.mk (PyData.keyHash P "plan") (.str "plan" 670) (.ref 365),DictEntry.mk (PyData.keyHash P "walked") (.str "walked" 680) (.ref 372),DictEntry.mk (PyData.keyHash P "ask_by") (.str "ask_by" 686) (.ref 377),DictEntry.mk (PyData.keyHash P "ask") (.str "ask" 694) (.ref 384),DictEntry.mk (PyData.keyHash P "__static_attributes__") (.str "__static_attributes__" 699) (.ref 385),DictEntry.mk (PyData.keyHash P "__dict__") (.str "__dict__" 701) (.ref 388),DictEntry.mk (PyData.keyHash P "__weakref__") (.str "__weakref__" 703) (.ref 389),DictEntry.mk (PyData.keyHash P "__doc__") (.str "__doc__" 704) .none] 4) #[]
noncomputable def o387:Params→Obj:=fun P=>Obj.mk (.type "type") none (.cls (ClassData.mk "Table" [.type "object"] [.ref 387,.type "object"] 386 "Table" true [] [] false none false)) #[none,none,some (.str "Table" 490),some (.str "Table" 498),some (.builtin "object.__new__"),some (.bool true)]
noncomputable def o388:Params→Obj:=fun P=>Obj.mk (.type "getset_descriptor") none (.fields #[.str "__dict__" 700,.ref 387,.builtin "function.__dict__",.builtin "function.__dict__#set"]) #[]
noncomputable def o389:Params→Obj:=fun P=>Obj.mk (.type "getset_descriptor") none (.fields #[.str "__weakref__" 702,.ref 387,.builtin "ExceptionGroup.__weakref__",.none]) #[]
noncomputable def o397:Params→Obj:=fun P=>Obj.mk (.type "code") none (.fields #[.str "_law_at" 709,.str "_law_at" 710,.str "/claim/cut.py" 711,.int 258 0,.int 2 0,.int 0 0,.int 0 0,.int 3 0,.ref 392,.bool true,.int 181 0,.ref 393,.none,.ref 394,.ref 395,.ref 396,.int 714 0,.int 258 0,.str "/claim/cut.py" 715]) #[]
noncomputable def o398:Params→Obj:=fun _=>fob (sAt PySem.Challenge.pw_uf040016_08.main.body [27]) "_law_at" (.none) (.str "law_uf040016_08" 707) (.ref 397)
noncomputable def o404:Params→Obj:=fun P=>Obj.mk (.type "code") none (.fields #[.str "_law_act" 717,.str "_law_act" 718,.str "/claim/cut.py" 719,.int 262 0,.int 4 0,.int 0 0,.int 0 0,.int 3 0,.ref 399,.bool true,.int 181 0,.ref 400,.none,.ref 401,.ref 402,.ref 403,.int 724 0,.int 262 0,.str "/claim/cut.py" 725]) #[]
noncomputable def o405:Params→Obj:=fun _=>fob (sAt PySem.Challenge.pw_uf040016_08.main.body [28]) "_law_act" (.none) (.str "law_uf040016_08" 707) (.ref 404)
noncomputable def o411:Params→Obj:=fun P=>Obj.mk (.type "code") none (.fields #[.str "_law_said" 727,.str "_law_said" 728,.str "/claim/cut.py" 729,.int 287 0,.int 4 0,.int 0 0,.int 0 0,.int 3 0,.ref 406,.bool true,.int 181 0,.ref 407,.none,.ref 408,.ref 409,.ref 410,.int 734 0,.int 287 0,.str "/claim/cut.py" 735]) #[]
noncomputable def o412:Params→Obj:=fun _=>fob (sAt PySem.Challenge.pw_uf040016_08.main.body [29]) "_law_said" (.none) (.str "law_uf040016_08" 707) (.ref 411)
noncomputable def o418:Params→Obj:=fun P=>Obj.mk (.type "code") none (.fields #[.str "_law_any" 737,.str "_law_any" 738,.str "/claim/cut.py" 739,.int 305 0,.int 4 0,.int 0 0,.int 0 0,.int 3 0,.ref 413,.bool true,.int 181 0,.ref 414,.none,.ref 415,.ref 416,.ref 417,.int 746 0,.int 305 0,.str "/claim/cut.py" 747]) #[]
noncomputable def o419:Params→Obj:=fun _=>fob (sAt PySem.Challenge.pw_uf040016_08.main.body [30]) "_law_any" (.none) (.str "law_uf040016_08" 707) (.ref 418)
noncomputable def o425:Params→Obj:=fun P=>Obj.mk (.type "code") none (.fields #[.str "_law_width" 749,.str "_law_width" 750,.str "/claim/cut.py" 751,.int 313 0,.int 1 0,.int 0 0,.int 0 0,.int 3 0,.ref 420,.bool true,.int 181 0,.ref 421,.none,.ref 422,.ref 423,.ref 424,.int 754 0,.int 313 0,.str "/claim/cut.py" 755]) #[]
noncomputable def o426:Params→Obj:=fun _=>fob (sAt PySem.Challenge.pw_uf040016_08.main.body [31]) "_law_width" (.none) (.str "law_uf040016_08" 707) (.ref 425)
noncomputable def o430:Params→Obj:=fun P=>Obj.mk (.type "code") none (.fields #[.str "_law_row" 757,.str "_law_row" 758,.str "/claim/cut.py" 759,.int 316 0,.int 3 0,.int 0 0,.int 0 0,.int 3 0,.ref 427,.bool true,.int 181 0,.ref 428,.none,.none,.none,.ref 429,.int 760 0,.int 316 0,.str "/claim/cut.py" 761]) #[]
noncomputable def o431:Params→Obj:=fun _=>fob (sAt PySem.Challenge.pw_uf040016_08.main.body [32]) "_law_row" (.none) (.str "law_uf040016_08" 707) (.ref 430)
noncomputable def o437:Params→Obj:=fun P=>Obj.mk (.type "code") none (.fields #[.str "_law_order" 763,.str "_law_order" 764,.str "/claim/cut.py" 765,.int 333 0,.int 3 0,.int 0 0,.int 0 0,.int 3 0,.ref 432,.bool true,.int 181 0,.ref 433,.none,.ref 434,.ref 435,.ref 436,.int 772 0,.int 333 0,.str "/claim/cut.py" 773]) #[]
noncomputable def o438:Params→Obj:=fun _=>fob (sAt PySem.Challenge.pw_uf040016_08.main.body [33]) "_law_order" (.none) (.str "law_uf040016_08" 707) (.ref 437)
noncomputable def o444:Params→Obj:=fun P=>Obj.mk (.type "code") none (.fields #[.str "_law_good_order" 775,.str "_law_good_order" 776,.str "/claim/cut.py" 777,.int 346 0,.int 2 0,.int 0 0,.int 0 0,.int 3 0,.ref 439,.bool true,.int 181 0,.ref 440,.none,.ref 441,.ref 442,.ref 443,.int 781 0,.int 346 0,.str "/claim/cut.py" 782]) #[]
noncomputable def o445:Params→Obj:=fun _=>fob (sAt PySem.Challenge.pw_uf040016_08.main.body [34]) "_law_good_order" (.none) (.str "law_uf040016_08" 707) (.ref 444)
noncomputable def o449:Params→Obj:=fun P=>Obj.mk (.type "code") none (.fields #[.str "_law_wish" 784,.str "_law_wish" 785,.str "/claim/cut.py" 786,.int 353 0,.int 3 0,.int 0 0,.int 0 0,.int 3 0,.ref 446,.bool true,.int 181 0,.ref 447,.none,.none,.none,.ref 448,.int 787 0,.int 353 0,.str "/claim/cut.py" 788]) #[]
noncomputable def o450:Params→Obj:=fun _=>fob (sAt PySem.Challenge.pw_uf040016_08.main.body [35]) "_law_wish" (.none) (.str "law_uf040016_08" 707) (.ref 449)
noncomputable def o456:Params→Obj:=fun P=>Obj.mk (.type "code") none (.fields #[.str "_law_good_wish" 790,.str "_law_good_wish" 791,.str "/claim/cut.py" 792,.int 365 0,.int 2 0,.int 0 0,.int 0 0,.int 3 0,.ref 451,.bool true,.int 181 0,.ref 452,.none,.ref 453,.ref 454,.ref 455,.int 795 0,.int 365 0,.str "/claim/cut.py" 796]) #[]
noncomputable def o457:Params→Obj:=fun _=>fob (sAt PySem.Challenge.pw_uf040016_08.main.body [36]) "_law_good_wish" (.none) (.str "law_uf040016_08" 707) (.ref 456)
noncomputable def o461:Params→Obj:=fun P=>Obj.mk (.type "code") none (.fields #[.str "_law_state" 798,.str "_law_state" 799,.str "/claim/cut.py" 800,.int 371 0,.int 1 0,.int 0 0,.int 0 0,.int 3 0,.ref 458,.bool true,.int 181 0,.ref 459,.none,.none,.none,.ref 460,.int 801 0,.int 371 0,.str "/claim/cut.py" 802]) #[]
noncomputable def o462:Params→Obj:=fun _=>fob (sAt PySem.Challenge.pw_uf040016_08.main.body [37]) "_law_state" (.none) (.str "law_uf040016_08" 707) (.ref 461)
noncomputable def o468:Params→Obj:=fun P=>Obj.mk (.type "code") none (.fields #[.str "_law_holds" 804,.str "_law_holds" 805,.str "/claim/cut.py" 806,.int 375 0,.int 5 0,.int 0 0,.int 0 0,.int 3 0,.ref 463,.bool true,.int 181 0,.ref 464,.none,.ref 465,.ref 466,.ref 467,.int 813 0,.int 375 0,.str "/claim/cut.py" 814]) #[]
noncomputable def o469:Params→Obj:=fun _=>fob (sAt PySem.Challenge.pw_uf040016_08.main.body [38]) "_law_holds" (.none) (.str "law_uf040016_08" 707) (.ref 468)
noncomputable def o475:Params→Obj:=fun P=>Obj.mk (.type "code") none (.fields #[.str "_law_changed" 816,.str "_law_changed" 817,.str "/claim/cut.py" 818,.int 382 0,.int 5 0,.int 0 0,.int 0 0,.int 3 0,.ref 470,.bool true,.int 181 0,.ref 471,.none,.ref 472,.ref 473,.ref 474,.int 828 0,.int 382 0,.str "/claim/cut.py" 829]) #[]
noncomputable def o476:Params→Obj:=fun _=>fob (sAt PySem.Challenge.pw_uf040016_08.main.body [39]) "_law_changed" (.none) (.str "law_uf040016_08" 707) (.ref 475)
noncomputable def o482:Params→Obj:=fun P=>Obj.mk (.type "code") none (.fields #[.str "_law_full" 831,.str "_law_full" 832,.str "/claim/cut.py" 833,.int 394 0,.int 4 0,.int 0 0,.int 0 0,.int 3 0,.ref 477,.bool true,.int 181 0,.ref 478,.none,.ref 479,.ref 480,.ref 481,.int 841 0,.int 394 0,.str "/claim/cut.py" 842]) #[]
noncomputable def o483:Params→Obj:=fun _=>fob (sAt PySem.Challenge.pw_uf040016_08.main.body [40]) "_law_full" (.none) (.str "law_uf040016_08" 707) (.ref 482)
noncomputable def o489:Params→Obj:=fun P=>Obj.mk (.type "code") none (.fields #[.str "_law_asked" 844,.str "_law_asked" 845,.str "/claim/cut.py" 846,.int 408 0,.int 5 0,.int 0 0,.int 0 0,.int 3 0,.ref 484,.bool true,.int 181 0,.ref 485,.none,.ref 486,.ref 487,.ref 488,.int 856 0,.int 408 0,.str "/claim/cut.py" 857]) #[]
noncomputable def o490:Params→Obj:=fun _=>fob (sAt PySem.Challenge.pw_uf040016_08.main.body [41]) "_law_asked" (.none) (.str "law_uf040016_08" 707) (.ref 489)
noncomputable def o496:Params→Obj:=fun P=>Obj.mk (.type "code") none (.fields #[.str "law" 859,.str "law" 860,.str "/claim/cut.py" 861,.int 420 0,.int 1 0,.int 0 0,.int 0 0,.int 3 0,.ref 491,.bool true,.int 181 0,.ref 492,.none,.ref 493,.ref 494,.ref 495,.int 873 0,.int 420 0,.str "/claim/cut.py" 874]) #[]
noncomputable def o497:Params→Obj:=fun _=>fob (sAt PySem.Challenge.pw_uf040016_08.main.body [42]) "law" (.none) (.str "law_uf040016_08" 707) (.ref 496)
noncomputable def K:Params→Frag:=fun P=>(nat_lit 2,o2 P)::(nat_lit 3,o3 P)::(nat_lit 23,o23 P)::(nat_lit 24,o24 P)::(nat_lit 25,o25 P)::(nat_lit 36,o36 P)::(nat_lit 37,o37 P)::(nat_lit 48,o48 P)::(nat_lit 49,o49 P)::(nat_lit 60,o60 P)::(nat_lit 61,o61 P)::(nat_lit 72,o72 P)::(nat_lit 73,o73 P)::(nat_lit 84,o84 P)::(nat_lit 85,o85 P)::(nat_lit 96,o96 P)::(nat_lit 97,o97 P)::(nat_lit 108,o108 P)::(nat_lit 109,o109 P)::(nat_lit 117,o117 P)::(nat_lit 118,o118 P)::(nat_lit 124,o124 P)::(nat_lit 125,o125 P)::(nat_lit 131,o131 P)::(nat_lit 132,o132 P)::(nat_lit 138,o138 P)::(nat_lit 139,o139 P)::(nat_lit 143,o143 P)::(nat_lit 144,o144 P)::(nat_lit 150,o150 P)::(nat_lit 151,o151 P)::(nat_lit 164,o164 P)::(nat_lit 165,o165 P)::(nat_lit 169,o169 P)::(nat_lit 170,o170 P)::(nat_lit 176,o176 P)::(nat_lit 177,o177 P)::(nat_lit 183,o183 P)::(nat_lit 184,o184 P)::(nat_lit 188,o188 P)::(nat_lit 189,o189 P)::(nat_lit 195,o195 P)::(nat_lit 196,o196 P)::(nat_lit 202,o202 P)::(nat_lit 203,o203 P)::(nat_lit 207,o207 P)::(nat_lit 208,o208 P)::(nat_lit 214,o214 P)::(nat_lit 215,o215 P)::(nat_lit 217,o217 P)::(nat_lit 218,o218 P)::(nat_lit 219,o219 P)::(nat_lit 220,o220 P)::(nat_lit 228,o228 P)::(nat_lit 229,o229 P)::(nat_lit 242,o242 P)::(nat_lit 243,o243 P)::(nat_lit 249,o249 P)::(nat_lit 250,o250 P)::(nat_lit 256,o256 P)::(nat_lit 257,o257 P)::(nat_lit 263,o263 P)::(nat_lit 264,o264 P)::(nat_lit 270,o270 P)::(nat_lit 271,o271 P)::(nat_lit 277,o277 P)::(nat_lit 278,o278 P)::(nat_lit 284,o284 P)::(nat_lit 285,o285 P)::(nat_lit 291,o291 P)::(nat_lit 292,o292 P)::(nat_lit 298,o298 P)::(nat_lit 299,o299 P)::(nat_lit 305,o305 P)::(nat_lit 306,o306 P)::(nat_lit 312,o312 P)::(nat_lit 313,o313 P)::(nat_lit 319,o319 P)::(nat_lit 320,o320 P)::(nat_lit 326,o326 P)::(nat_lit 327,o327 P)::(nat_lit 331,o331 P)::(nat_lit 332,o332 P)::(nat_lit 336,o336 P)::(nat_lit 337,o337 P)::(nat_lit 343,o343 P)::(nat_lit 344,o344 P)::(nat_lit 350,o350 P)::(nat_lit 351,o351 P)::(nat_lit 357,o357 P)::(nat_lit 358,o358 P)::(nat_lit 364,o364 P)::(nat_lit 365,o365 P)::(nat_lit 371,o371 P)::(nat_lit 372,o372 P)::(nat_lit 376,o376 P)::(nat_lit 377,o377 P)::(nat_lit 383,o383 P)::(nat_lit 384,o384 P)::(nat_lit 386,o386 P)::(nat_lit 387,o387 P)::(nat_lit 388,o388 P)::(nat_lit 389,o389 P)::(nat_lit 397,o397 P)::(nat_lit 398,o398 P)::(nat_lit 404,o404 P)::(nat_lit 405,o405 P)::(nat_lit 411,o411 P)::(nat_lit 412,o412 P)::(nat_lit 418,o418 P)::(nat_lit 419,o419 P)::(nat_lit 425,o425 P)::(nat_lit 426,o426 P)::(nat_lit 430,o430 P)::(nat_lit 431,o431 P)::(nat_lit 437,o437 P)::(nat_lit 438,o438 P)::(nat_lit 444,o444 P)::(nat_lit 445,o445 P)::(nat_lit 449,o449 P)::(nat_lit 450,o450 P)::(nat_lit 456,o456 P)::(nat_lit 457,o457 P)::(nat_lit 461,o461 P)::(nat_lit 462,o462 P)::(nat_lit 468,o468 P)::(nat_lit 469,o469 P)::(nat_lit 475,o475 P)::(nat_lit 476,o476 P)::(nat_lit 482,o482 P)::(nat_lit 483,o483 P)::(nat_lit 489,o489 P)::(nat_lit 490,o490 P)::(nat_lit 496,o496 P)::(nat_lit 497,o497 P)::[]
noncomputable abbrev as:List Addr:=[nat_lit 2,nat_lit 3,nat_lit 23,nat_lit 24,nat_lit 25,nat_lit 36,nat_lit 37,nat_lit 48,nat_lit 49,nat_lit 60,nat_lit 61,nat_lit 72,nat_lit 73,nat_lit 84,nat_lit 85,nat_lit 96,nat_lit 97,nat_lit 108,nat_lit 109,nat_lit 117,nat_lit 118,nat_lit 124,nat_lit 125,nat_lit 131,nat_lit 132,nat_lit 138,nat_lit 139,nat_lit 143,nat_lit 144,nat_lit 150,nat_lit 151,nat_lit 164,nat_lit 165,nat_lit 169,nat_lit 170,nat_lit 176,nat_lit 177,nat_lit 183,nat_lit 184,nat_lit 188,nat_lit 189,nat_lit 195,nat_lit 196,nat_lit 202,nat_lit 203,nat_lit 207,nat_lit 208,nat_lit 214,nat_lit 215,nat_lit 217,nat_lit 218,nat_lit 219,nat_lit 220,nat_lit 228,nat_lit 229,nat_lit 242,nat_lit 243,nat_lit 249,nat_lit 250,nat_lit 256,nat_lit 257,nat_lit 263,nat_lit 264,nat_lit 270,nat_lit 271,nat_lit 277,nat_lit 278,nat_lit 284,nat_lit 285,nat_lit 291,nat_lit 292,nat_lit 298,nat_lit 299,nat_lit 305,nat_lit 306,nat_lit 312,nat_lit 313,nat_lit 319,nat_lit 320,nat_lit 326,nat_lit 327,nat_lit 331,nat_lit 332,nat_lit 336,nat_lit 337,nat_lit 343,nat_lit 344,nat_lit 350,nat_lit 351,nat_lit 357,nat_lit 358,nat_lit 364,nat_lit 365,nat_lit 371,nat_lit 372,nat_lit 376,nat_lit 377,nat_lit 383,nat_lit 384,nat_lit 386,nat_lit 387,nat_lit 388,nat_lit 389,nat_lit 397,nat_lit 398,nat_lit 404,nat_lit 405,nat_lit 411,nat_lit 412,nat_lit 418,nat_lit 419,nat_lit 425,nat_lit 426,nat_lit 430,nat_lit 431,nat_lit 437,nat_lit 438,nat_lit 444,nat_lit 445,nat_lit 449,nat_lit 450,nat_lit 456,nat_lit 457,nat_lit 461,nat_lit 462,nat_lit 468,nat_lit 469,nat_lit 475,nat_lit 476,nat_lit 482,nat_lit 483,nat_lit 489,nat_lit 490,nat_lit 496,nat_lit 497]
theorem as_eq:∀ P,as=(K P).map (·.1):=fun _=>by kernel_rfl
noncomputable def T0:Params→BT:=fun P=>(.node (boot_o_0 P) (.node (boot_o_1 P) (.node (boot_o_3 P) (.node (boot_o_7 P) .nil .nil) .nil) (.node (boot_o_5 P) (.node (boot_o_9 P) .nil .nil) .nil)) (.node (boot_o_2 P) (.node (boot_o_4 P) (.node (boot_o_8 P) .nil .nil) .nil) (.node (boot_o_6 P) (.node (boot_o_10 P) .nil .nil) .nil)))
noncomputable abbrev q:Program:=view PySem.Challenge.pw_uf040016_08 [1,2,3,4,5,6,7,8,10,11,12,14,15,17,18,20,21,22,23,24,25,27,28,29,30,31,32,33,34,35,36,37,38,39,40,41,42]
noncomputable abbrev H:Hook:=kHook K as as_eq
set_option linter.unusedVariables true
theorem run (w:World):(fun os=>(topG through (stepOk 11 (some (.ref 6))) (stepT (denote treeTable) PySem.Challenge.pw_uf040016_08 w) 4187 ⟨T0 w.params,11,{},Array.mk [],boot_drawn,boot_toks,os⟩ (topStub PySem.Challenge.pw_uf040016_08)).map (fun s=>
    ((staticsOk (importedModules PySem.Challenge.pw_uf040016_08.main.body) (boot_heap w.params) s.abs.heap&&namesBound PySem.Challenge.pw_uf040016_08 s.abs.heap&&gensDone s.abs&&laidKept (boot_heap w.params) s.abs.heap),
      openSeen (view PySem.Challenge.pw_uf040016_08 [1,2,3,4,5,6,7,8,10,11,12,14,15,17,18,20,21,22,23,24,25,27,28,29,30,31,32,33,34,35,36,37,38,39,40,41,42]) [] (importedModules PySem.Challenge.pw_uf040016_08.main.body) (fun s=>xlAt (view PySem.Challenge.pw_uf040016_08 [1,2,3,4,5,6,7,8,10,11,12,14,15,17,18,20,21,22,23,24,25,27,28,29,30,31,32,33,34,35,36,37,38,39,40,41,42]) [] s&&recOk [] s) true s.abs,as.map s.abs.heap.get?)))=fun _=>some (true,openGood (view PySem.Challenge.pw_uf040016_08 [1,2,3,4,5,6,7,8,10,11,12,14,15,17,18,20,21,22,23,24,25,27,28,29,30,31,32,33,34,35,36,37,38,39,40,41,42]) [],(K w.params).map fun x=>some x.2):=by
  rw [PySem.W.Fast.te6613529449190102663,PySem.W.Fast.te10156331382660048174,PySem.W.Fast.te11892475500146522536,PySem.W.Fast.te14364793385576792824,PySem.W.Fast.te4187177175401517315,PySem.W.Fast.te5923862056798008813]
  kernel_rfl
theorem left:LeftO PySem.Challenge.pw_uf040016_08 q [] (fun s=>xlAt q [] s&&recOk [] s) (Hook.obs H) (Hook.val H) 4187:=
  left_of_tree (T₀:=T0) (m₀:=11) (M:=4187) (li:={}) (ann:=some (.ref 6)) (by kernel_rfl) (by decide) (fun _=>by kernel_rfl) (fun _=>by kernel_rfl) (fun _=>by kernel_rfl) (by decide) run
end Mine.L08
end
section
open PySem PySem.W PyProof.Rows
set_option Elab.async false
namespace Mine
theorem exc_of_in {K:Frag} {h:Heap} {C:Addr} {bm:List Value} {o:Obj} {nm qn ns bs hd sn sub ab col dd k0 k1 k2 k3 k5} (X:K.In h) (ho:K.lookup C=some o) (he:o=⟨.type "type",dd,.cls ⟨nm,bs,.ref C::bm,ns,qn,hd,sn,sub,ab,col,false⟩,#[k0,k1,k2,k3,some (.builtin "ValueError.__new__"),k5]⟩)
    (ht:tailIn K [.type "ValueError",.type "Exception",.type "BaseException",.type "object"] bm=true) (hok:nsOkIn K ns=true) (hni:nsIn K ns "__init__" = some none):Exc h C bm:=by
  subst he
  exact ⟨_,_,_,PySem.F.excBase_ValueError,ns,nm,qn,bs,hd,sn,sub,ab,col,dd,k0,k1,k2,k3,k5,_,X _ _ ho,.of_isNs (isNs_of_in X hok),nsMap_none_of_in X hok hni,tail_of_in X ht⟩
theorem valid_no {c:Bx} {n:Nat} {f:Addr} {o:Obj} {fd:FuncData} (ho:c.b.get? f=some o) (hd:o.data = .func fd):Valid c n f (fun _ _ _ _=>False):=⟨⟨o,fd,ho,hd⟩,fun _ _ _ _ _ _ _ _ h=>h.elim⟩
end Mine
end
open PySem PySem.W PyProof.Rows
set_option Elab.async false
namespace Mine.L08
set_option maxRecDepth 100000
set_option maxHeartbeats 4000000
theorem fill:PySem.Challenge.rw_uf040016_08=PySem.Challenge.rw_uf040016_08∧K=K:=by
  k_fill
  exact ⟨rfl,rfl⟩
noncomputable def gvL:List Value:=[.builtin "isinstance",.type "int",.type "bool",.type "range",.builtin "min",.builtin "len",.ref 125,.builtin "sorted",.type "set",.builtin "max",.none,.ref 132,.ref 144,.ref 151,.none,.none,.ref 118,.int 6 475,.ref 37,.ref 73,.type "tuple",.none,.ref 229,.type "list",.int 20 479,.ref 97,.none,.none,.ref 109,.ref 49,.int 200 477,.ref 61,.none,.none,.none,.ref 85,.none,.int 8 481,.none,.ref 218,.none,.none,.none,.none,.none,.none,.none,.none,.none,.ref 139,.none,.none,.none,.ref 387,.none,.none,.none,.none,.none,.none,.none,.ref 405,.ref 24,.type "ValueError",.none,.ref 462,.ref 412,.ref 419,.ref 469,.ref 431,.ref 438,.ref 445,.ref 398,.ref 483,.ref 476,.ref 426,.ref 490,.ref 457,.ref 450]
noncomputable def gv (g:Nat):Value:=gvL.getD g .none
noncomputable def adL:List Nat:=[0,0,0,0,0,0,125,0,0,0,170,132,144,151,196,203,118,0,0,0,0,250,229,0,0,0,264,278,0,0,0,0,177,257,184,0,337,0,165,0,320,285,189,208,215,271,351,358,372,139,377,365,243,0,292,327,332,344,384,306,299,405,0,0,313,462,412,419,469,431,438,445,398,483,476,426,490,457,450,497]
noncomputable def ad (g:Nat):Nat:=adL.getD g 0
noncomputable abbrev gl:List Nat:=[0,1,2,3,4,5,6,7,8,9,11,12,13,16,17,18,19,20,22,23,24,25,28,29,30,31,35,37,39,49,53,61,62,63,65,66,67,68,69,70,71,72,73,74,75,76,77,78]
noncomputable abbrev fnl:List Nat:=[6,10,11,12,13,14,15,16,21,22,26,27,32,33,34,36,38,40,41,42,43,44,45,46,47,48,49,50,51,52,54,55,56,57,58,59,60,61,64,65,66,67,68,69,70,71,72,73,74,75,76,77,78,79]
noncomputable abbrev fnC:List Nat:=[6,11,12,13,16,22,49,61,65,66,67,68,69,70,71,72,73,74,75,76,77,78]
noncomputable abbrev aL:List (Nat×Str):=[(218, "columns"),(218, "entries"),(387, "following"),(387, "kept"),(387, "there"),(387, "width")]
noncomputable abbrev sL:List (Nat×Str):=[(218, "columns"),(218, "entries"),(387, "following"),(387, "kept"),(387, "there"),(387, "width")]
noncomputable abbrev mL:List (Nat×Str×Nat):=[(218, "behind",15),(218, "bounds",14),(218, "covers",44),(218, "drop",34),(218, "entry_of",10),(218, "numbers",42),(218, "put",32),(218, "stretch",43),(387, "ask",58),(387, "ask_by",50),(387, "change",59),(387, "cost_of",46),(387, "costs",47),(387, "drop",60),(387, "forget",56),(387, "has_column",21),(387, "is_order",27),(387, "is_triple",26),(387, "kept_of",41),(387, "listed",57),(387, "need_row",33),(387, "need_wish",45),(387, "numbers",40),(387, "orders",36),(387, "plan",51),(387, "put",54),(387, "row",64),(387, "tell",55),(387, "walked",48)]
noncomputable abbrev nL:List (Nat×Nat):=[(218,38),(387,52)]
noncomputable abbrev xL:List (Nat×Nat):=[(18,37),(19,73),(25,97),(28,109),(29,49),(31,61),(35,85)]
noncomputable abbrev uL:List (Nat×List Nat×List Nat):=[(18,[37],[49,61,73,85,97,109]),(19,[73],[37,49,61,85,97,109]),(25,[97],[37,49,61,73,85,109]),(28,[109],[37,49,61,73,85,97]),(29,[49],[37,61,73,85,97,109]),(31,[61],[37,49,73,85,97,109]),(35,[85],[37,49,61,73,97,109]),(62,[37,49,61,73,85,97,109],[])]
noncomputable abbrev iL:List (Nat×List Nat×List Nat):=[(18,[37],[49,61,73,85,97,109]),(19,[73],[37,49,61,85,97,109]),(25,[97],[37,49,61,73,85,109]),(28,[109],[37,49,61,73,85,97]),(29,[49],[37,61,73,85,97,109]),(31,[61],[37,49,73,85,97,109]),(35,[85],[37,49,61,73,97,109]),(63,[37,49,61,73,85,97,109],[])]
noncomputable abbrev tb (nm:Nat→Str):Tb:={ N:=⟨nm,gn⟩,gv:=gv,gl:=gl,fns:=fnC,attrs:=aL,sets:=sL,meths:=mL,news:=nL,excs:=xL,subs:=uL,isxs:=iL }
theorem fc {α:Type} {P:α→Prop} {a:α} {l:List α} (h:P a) (t:∀ x∈l,P x):∀ x∈a::l,P x:=List.forall_mem_cons.mpr ⟨h,t⟩
theorem fe {α:Type} {P:α→Prop}:∀ x∈([]:List α),P x:=fun _ h=>nomatch h
theorem globs (c:Bx) (KX:(K c.w.params).In c.b) (B:∀ x:Str,x ≠ "__name__" → c.mb x=bootBuiltins x):∀ g∈gl,c.glob (gn g)=some (gv g):=by
  refine fc (globB (x:=Str.ofString "isinstance") (mg_none_of (n:=Str.ofString "isinstance") KX c.hg (by k_is)) B (by decide) (by boot_by_name)) ?_
  refine fc (globB (x:=Str.ofString "int") (mg_none_of (n:=Str.ofString "int") KX c.hg (by k_is)) B (by decide) (by boot_by_name)) ?_
  refine fc (globB (x:=Str.ofString "bool") (mg_none_of (n:=Str.ofString "bool") KX c.hg (by k_is)) B (by decide) (by boot_by_name)) ?_
  refine fc (globB (x:=Str.ofString "range") (mg_none_of (n:=Str.ofString "range") KX c.hg (by k_is)) B (by decide) (by boot_by_name)) ?_
  refine fc (globB (x:=Str.ofString "min") (mg_none_of (n:=Str.ofString "min") KX c.hg (by k_is)) B (by decide) (by boot_by_name)) ?_
  refine fc (globB (x:=Str.ofString "len") (mg_none_of (n:=Str.ofString "len") KX c.hg (by k_is)) B (by decide) (by boot_by_name)) ?_
  refine fc (globF (mg_of (n:=Str.ofString "less") KX c.hg (by k_is))) ?_
  refine fc (globB (x:=Str.ofString "sorted") (mg_none_of (n:=Str.ofString "sorted") KX c.hg (by k_is)) B (by decide) (by boot_by_name)) ?_
  refine fc (globB (x:=Str.ofString "set") (mg_none_of (n:=Str.ofString "set") KX c.hg (by k_is)) B (by decide) (by boot_by_name)) ?_
  refine fc (globB (x:=Str.ofString "max") (mg_none_of (n:=Str.ofString "max") KX c.hg (by k_is)) B (by decide) (by boot_by_name)) ?_
  refine fc (globF (mg_of (n:=Str.ofString "below") KX c.hg (by k_is))) ?_
  refine fc (globF (mg_of (n:=Str.ofString "merged") KX c.hg (by k_is))) ?_
  refine fc (globF (mg_of (n:=Str.ofString "triple_of") KX c.hg (by k_is))) ?_
  refine fc (globF (mg_of (n:=Str.ofString "is_whole") KX c.hg (by k_is))) ?_
  refine fc (globF (mg_of (n:=Str.ofString "MOST_WIDTH") KX c.hg (by k_is))) ?_
  refine fc (globF (mg_of (n:=Str.ofString "BadWidth") KX c.hg (by k_is))) ?_
  refine fc (globF (mg_of (n:=Str.ofString "NoRow") KX c.hg (by k_is))) ?_
  refine fc (globB (x:=Str.ofString "tuple") (mg_none_of (n:=Str.ofString "tuple") KX c.hg (by k_is)) B (by decide) (by boot_by_name)) ?_
  refine fc (globF (mg_of (n:=Str.ofString "is_end") KX c.hg (by k_is))) ?_
  refine fc (globB (x:=Str.ofString "list") (mg_none_of (n:=Str.ofString "list") KX c.hg (by k_is)) B (by decide) (by boot_by_name)) ?_
  refine fc (globF (mg_of (n:=Str.ofString "MOST_TRIPLES") KX c.hg (by k_is))) ?_
  refine fc (globF (mg_of (n:=Str.ofString "BadWish") KX c.hg (by k_is))) ?_
  refine fc (globF (mg_of (n:=Str.ofString "BadOrder") KX c.hg (by k_is))) ?_
  refine fc (globF (mg_of (n:=Str.ofString "BadRow") KX c.hg (by k_is))) ?_
  refine fc (globF (mg_of (n:=Str.ofString "MOST_ROWS") KX c.hg (by k_is))) ?_
  refine fc (globF (mg_of (n:=Str.ofString "Full") KX c.hg (by k_is))) ?_
  refine fc (globF (mg_of (n:=Str.ofString "BadColumn") KX c.hg (by k_is))) ?_
  refine fc (globF (mg_of (n:=Str.ofString "MOST_ORDERS") KX c.hg (by k_is))) ?_
  refine fc (globF (mg_of (n:=Str.ofString "Kept") KX c.hg (by k_is))) ?_
  refine fc (globF (mg_of (n:=Str.ofString "fits") KX c.hg (by k_is))) ?_
  refine fc (globF (mg_of (n:=Str.ofString "Table") KX c.hg (by k_is))) ?_
  refine fc (globF (mg_of (n:=Str.ofString "_law_act") KX c.hg (by k_is))) ?_
  refine fc (globF (mg_of (n:=Str.ofString "BookError") KX c.hg (by k_is))) ?_
  refine fc (globB (x:=Str.ofString "ValueError") (mg_none_of (n:=Str.ofString "ValueError") KX c.hg (by k_is)) B (by decide) (by boot_by_name)) ?_
  refine fc (globF (mg_of (n:=Str.ofString "_law_state") KX c.hg (by k_is))) ?_
  refine fc (globF (mg_of (n:=Str.ofString "_law_said") KX c.hg (by k_is))) ?_
  refine fc (globF (mg_of (n:=Str.ofString "_law_any") KX c.hg (by k_is))) ?_
  refine fc (globF (mg_of (n:=Str.ofString "_law_holds") KX c.hg (by k_is))) ?_
  refine fc (globF (mg_of (n:=Str.ofString "_law_row") KX c.hg (by k_is))) ?_
  refine fc (globF (mg_of (n:=Str.ofString "_law_order") KX c.hg (by k_is))) ?_
  refine fc (globF (mg_of (n:=Str.ofString "_law_good_order") KX c.hg (by k_is))) ?_
  refine fc (globF (mg_of (n:=Str.ofString "_law_at") KX c.hg (by k_is))) ?_
  refine fc (globF (mg_of (n:=Str.ofString "_law_full") KX c.hg (by k_is))) ?_
  refine fc (globF (mg_of (n:=Str.ofString "_law_changed") KX c.hg (by k_is))) ?_
  refine fc (globF (mg_of (n:=Str.ofString "_law_width") KX c.hg (by k_is))) ?_
  refine fc (globF (mg_of (n:=Str.ofString "_law_asked") KX c.hg (by k_is))) ?_
  refine fc (globF (mg_of (n:=Str.ofString "_law_good_wish") KX c.hg (by k_is))) ?_
  refine fc (globF (mg_of (n:=Str.ofString "_law_wish") KX c.hg (by k_is))) ?_
  exact fe
theorem aOk (p:Params):∀ x∈aL,AttrOk (K p) x.1 x.2:=fc ⟨by k_is,by k_is,_,by k_is,by k_is⟩ (fc ⟨by k_is,by k_is,_,by k_is,by k_is⟩ (fc ⟨by k_is,by k_is,_,by k_is,by k_is⟩ (fc ⟨by k_is,by k_is,_,by k_is,by k_is⟩ (fc ⟨by k_is,by k_is,_,by k_is,by k_is⟩ (fc ⟨by k_is,by k_is,_,by k_is,by k_is⟩ (fe))))))
theorem sOk (p:Params):∀ x∈sL,SetOk (K p) x.1 x.2:=fc ⟨by k_is,by k_is,by k_is,by k_is⟩ (fc ⟨by k_is,by k_is,by k_is,by k_is⟩ (fc ⟨by k_is,by k_is,by k_is,by k_is⟩ (fc ⟨by k_is,by k_is,by k_is,by k_is⟩ (fc ⟨by k_is,by k_is,by k_is,by k_is⟩ (fc ⟨by k_is,by k_is,by k_is,by k_is⟩ (fe))))))
theorem mOk (p:Params):∀ x∈mL,MethOk (K p) x.1 x.2.1 (ad x.2.2):=fc (show MethOk (K p) 218 "behind" 203 from ⟨by k_is,by k_is,by k_is,by k_is⟩) (fc (show MethOk (K p) 218 "bounds" 196 from ⟨by k_is,by k_is,by k_is,by k_is⟩) (fc (show MethOk (K p) 218 "covers" 215 from ⟨by k_is,by k_is,by k_is,by k_is⟩) (fc (show MethOk (K p) 218 "drop" 184 from ⟨by k_is,by k_is,by k_is,by k_is⟩) (fc (show MethOk (K p) 218 "entry_of" 170 from ⟨by k_is,by k_is,by k_is,by k_is⟩) (fc (show MethOk (K p) 218 "numbers" 189 from ⟨by k_is,by k_is,by k_is,by k_is⟩) (fc (show MethOk (K p) 218 "put" 177 from ⟨by k_is,by k_is,by k_is,by k_is⟩) (fc (show MethOk (K p) 218 "stretch" 208 from ⟨by k_is,by k_is,by k_is,by k_is⟩) (fc (show MethOk (K p) 387 "ask" 384 from ⟨by k_is,by k_is,by k_is,by k_is⟩) (fc (show MethOk (K p) 387 "ask_by" 377 from ⟨by k_is,by k_is,by k_is,by k_is⟩) (fc (show MethOk (K p) 387 "change" 306 from ⟨by k_is,by k_is,by k_is,by k_is⟩) (fc (show MethOk (K p) 387 "cost_of" 351 from ⟨by k_is,by k_is,by k_is,by k_is⟩) (fc (show MethOk (K p) 387 "costs" 358 from ⟨by k_is,by k_is,by k_is,by k_is⟩) (fc (show MethOk (K p) 387 "drop" 299 from ⟨by k_is,by k_is,by k_is,by k_is⟩) (fc (show MethOk (K p) 387 "forget" 332 from ⟨by k_is,by k_is,by k_is,by k_is⟩) (fc (show MethOk (K p) 387 "has_column" 250 from ⟨by k_is,by k_is,by k_is,by k_is⟩) (fc (show MethOk (K p) 387 "is_order" 278 from ⟨by k_is,by k_is,by k_is,by k_is⟩) (fc (show MethOk (K p) 387 "is_triple" 264 from ⟨by k_is,by k_is,by k_is,by k_is⟩) (fc (show MethOk (K p) 387 "kept_of" 285 from ⟨by k_is,by k_is,by k_is,by k_is⟩) (fc (show MethOk (K p) 387 "listed" 344 from ⟨by k_is,by k_is,by k_is,by k_is⟩) (fc (show MethOk (K p) 387 "need_row" 257 from ⟨by k_is,by k_is,by k_is,by k_is⟩) (fc (show MethOk (K p) 387 "need_wish" 271 from ⟨by k_is,by k_is,by k_is,by k_is⟩) (fc (show MethOk (K p) 387 "numbers" 320 from ⟨by k_is,by k_is,by k_is,by k_is⟩) (fc (show MethOk (K p) 387 "orders" 337 from ⟨by k_is,by k_is,by k_is,by k_is⟩) (fc (show MethOk (K p) 387 "plan" 365 from ⟨by k_is,by k_is,by k_is,by k_is⟩) (fc (show MethOk (K p) 387 "put" 292 from ⟨by k_is,by k_is,by k_is,by k_is⟩) (fc (show MethOk (K p) 387 "row" 313 from ⟨by k_is,by k_is,by k_is,by k_is⟩) (fc (show MethOk (K p) 387 "tell" 327 from ⟨by k_is,by k_is,by k_is,by k_is⟩) (fc (show MethOk (K p) 387 "walked" 372 from ⟨by k_is,by k_is,by k_is,by k_is⟩) (fe)))))))))))))))))))))))))))))
theorem nOk (p:Params):∀ x∈nL,NewOk (K p) x.1 (ad x.2):=fc (show NewOk (K p) 218 165 from ⟨by k_is,by k_is,by k_is,by k_is⟩) (fc (show NewOk (K p) 387 243 from ⟨by k_is,by k_is,by k_is,by k_is⟩) (fe))
theorem fOk:∀ g∈fnC,gv g = .ref (ad g):=fc rfl (fc rfl (fc rfl (fc rfl (fc rfl (fc rfl (fc rfl (fc rfl (fc rfl (fc rfl (fc rfl (fc rfl (fc rfl (fc rfl (fc rfl (fc rfl (fc rfl (fc rfl (fc rfl (fc rfl (fc rfl (fc rfl (fe))))))))))))))))))))))
theorem ins:(∀ g∈fnC,g∈fnl)∧(∀ x∈mL,x.2.2∈fnl)∧∀ x∈nL,x.2∈fnl:=by decide +kernel
theorem gt {c:Bx} (hK:c.K=K c.w.params) (KX:(K c.w.params).In c.b) (B:∀ x:Str,x ≠ "__name__" → c.mb x=bootBuiltins x) {k:Nat} (IH:∀ g∈fnl,Valid c (2*k) (ad g) (SS k g)) (nm:Nat→Str):GT c (2*k+1) (tb nm) (SS k):=
  ⟨globs c KX B,fun g hg=>⟨ad g,fOk g hg,(IH g (ins.1 g hg)).mono (Nat.le_succ _)⟩,fun x hx=>by rw [hK]; exact aOk _ x hx,fun x hx=>by rw [hK]; exact sOk _ x hx,fun x hx=>⟨ad x.2.2,by rw [hK]; exact mOk _ x hx,(IH _ (ins.2.1 x hx)).mono (Nat.le_succ _)⟩,fun x hx=>⟨ad x.2,2*k,Nat.le_refl _,by rw [hK]; exact nOk _ x hx,IH _ (ins.2.2 x hx)⟩⟩
noncomputable abbrev cl8:List Nat:=[24,37,49,61,73,85,97,109]
noncomputable def bmO (C:Nat):List Value:=if C=24 then [.type "ValueError",.type "Exception",.type "BaseException",.type "object"] else [.ref 24,.type "ValueError",.type "Exception",.type "BaseException",.type "object"]
theorem excs {c:Bx} (KX:(K c.w.params).In c.b):∀ C∈cl8,Exc c.b C (bmO C):=fc (exc_of_in (o:=o24 _) KX (by k_is) rfl (by kernel_rfl) (by kernel_rfl) (by kernel_rfl)) (fc (exc_of_in (o:=o37 _) KX (by k_is) rfl (by kernel_rfl) (by kernel_rfl) (by kernel_rfl)) (fc (exc_of_in (o:=o49 _) KX (by k_is) rfl (by kernel_rfl) (by kernel_rfl) (by kernel_rfl)) (fc (exc_of_in (o:=o61 _) KX (by k_is) rfl (by kernel_rfl) (by kernel_rfl) (by kernel_rfl)) (fc (exc_of_in (o:=o73 _) KX (by k_is) rfl (by kernel_rfl) (by kernel_rfl) (by kernel_rfl)) (fc (exc_of_in (o:=o85 _) KX (by k_is) rfl (by kernel_rfl) (by kernel_rfl) (by kernel_rfl)) (fc (exc_of_in (o:=o97 _) KX (by k_is) rfl (by kernel_rfl) (by kernel_rfl) (by kernel_rfl)) (fc (exc_of_in (o:=o109 _) KX (by k_is) rfl (by kernel_rfl) (by kernel_rfl) (by kernel_rfl)) (fe))))))))
theorem clsOk (p:Params):∀ C∈cl8,ClsOk (K p) C:=fc ⟨by kernel_rfl,by kernel_rfl,by kernel_rfl,by kernel_rfl,by kernel_rfl,by kernel_rfl,by kernel_rfl⟩ (fc ⟨by kernel_rfl,by kernel_rfl,by kernel_rfl,by kernel_rfl,by kernel_rfl,by kernel_rfl,by kernel_rfl⟩ (fc ⟨by kernel_rfl,by kernel_rfl,by kernel_rfl,by kernel_rfl,by kernel_rfl,by kernel_rfl,by kernel_rfl⟩ (fc ⟨by kernel_rfl,by kernel_rfl,by kernel_rfl,by kernel_rfl,by kernel_rfl,by kernel_rfl,by kernel_rfl⟩ (fc ⟨by kernel_rfl,by kernel_rfl,by kernel_rfl,by kernel_rfl,by kernel_rfl,by kernel_rfl,by kernel_rfl⟩ (fc ⟨by kernel_rfl,by kernel_rfl,by kernel_rfl,by kernel_rfl,by kernel_rfl,by kernel_rfl,by kernel_rfl⟩ (fc ⟨by kernel_rfl,by kernel_rfl,by kernel_rfl,by kernel_rfl,by kernel_rfl,by kernel_rfl,by kernel_rfl⟩ (fc ⟨by kernel_rfl,by kernel_rfl,by kernel_rfl,by kernel_rfl,by kernel_rfl,by kernel_rfl,by kernel_rfl⟩ (fe))))))))
noncomputable def ofC (D C:Nat):Bool:=C==D || D==24
theorem catD:∀ D∈cl8,∀ C∈cl8,(.ref C::bmO C).contains (.ref D)=ofC D C:=by decide +kernel
theorem catE:∀ C∈cl8,(bmO C).contains (.type "ValueError")=true:=by decide +kernel
theorem cat {c:Bx} (KX:(K c.w.params).In c.b) {D C:Nat} {b:Bool} (hD:D∈cl8) (hC:C∈cl8) (h:ofC D C=b):Catches c.b (.ref D) C b:=by
  exact ⟨_,excs KX C hC,.inl ⟨D,_,rfl,excs KX D hD,(catD D hD C hC).trans h⟩⟩
theorem catV {c:Bx} (KX:(K c.w.params).In c.b) {C:Nat} (hC:C∈cl8):Catches c.b (.type "ValueError") C true:=by
  exact ⟨_,excs KX C hC,.inr ⟨rfl,catE C hC⟩⟩
noncomputable def noC (K:Frag) (D C:Nat):Bool:=(match typeIn K (.ref D) with | some (.type s)=>s == "type" | _=>false)&&((clsIn K D).isSome&&((clsIn K C).isSome&&(mroIn K C (.ref D)==some false)))
theorem noCs (p:Params):(cl8.all fun D=>cl8.all fun C=>ofC D C || noC (K p) D C)=true:=by kernel_rfl
theorem yesC (p:Params):(cl8.all fun D=>isIn (K p) (.ref D) D)=true:=by kernel_rfl
set_option tactic.hygienic true in
theorem isxN {c:Bx} (hK:c.K=K c.w.params) {D C:Nat} (hD:D∈cl8) (hC:C∈cl8) (h:ofC D C=false):IsxOk c.b c.K (.ref D) C false:=by
  have z:=List.all_eq_true.mp (List.all_eq_true.mp (noCs c.w.params) D hD) C hC
  rw [h,Bool.false_or] at z
  have z:=Bool.and_eq_true_iff.mp z
  have z2:=Bool.and_eq_true_iff.mp z.2
  have z3:=Bool.and_eq_true_iff.mp z2.2
  refine .inr (.inr ⟨D,rfl,rfl,by rw [hK]; exact clsOk _ C hC,fun e=>?_,?_,by rw [hK]; exact z2.1,by rw [hK]; exact z3.1,by rw [hK]; exact eq_of_beq z3.2⟩)
  · subst e; rw [ofC,beq_self_eq_true] at h; cases h
  · rw [hK]
    have z1:=z.1
    split at z1
    · rename_i s e; rw [e,eq_of_beq z1]
    · cases z1
theorem isxY {c:Bx} (hK:c.K=K c.w.params) {D:Nat} (hD:D∈cl8):IsxOk c.b c.K (.ref D) D true := .inr (.inl ⟨D,rfl,rfl,by rw [hK]; exact List.all_eq_true.mp (yesC _) D hD⟩)
theorem xOk:∀ x∈xL,gv x.1 = .ref x.2∧x.2∈cl8:=fc ⟨rfl,by decide⟩ (fc ⟨rfl,by decide⟩ (fc ⟨rfl,by decide⟩ (fc ⟨rfl,by decide⟩ (fc ⟨rfl,by decide⟩ (fc ⟨rfl,by decide⟩ (fc ⟨rfl,by decide⟩ (fe)))))))
theorem sub2 {c:Bx} (KX:(K c.w.params).In c.b) {D:Nat} {cs os:List Nat} (hD:(cl8.contains D&&(cs.all (fun C=>cl8.contains C&&ofC D C)&&os.all fun C=>cl8.contains C&&!ofC D C))=true):(∀ C∈cs,Catches c.b (.ref D) C true)∧∀ C∈os,Catches c.b (.ref D) C false:=by
  have z:=Bool.and_eq_true_iff.mp hD
  have z2:=Bool.and_eq_true_iff.mp z.2
  have hD:=List.contains_iff_mem.mp z.1
  refine ⟨fun C hC=>?_,fun C hC=>?_⟩
  · have q:=Bool.and_eq_true_iff.mp (List.all_eq_true.mp z2.1 C hC)
    exact cat KX hD (List.contains_iff_mem.mp q.1) q.2
  · have q:=Bool.and_eq_true_iff.mp (List.all_eq_true.mp z2.2 C hC)
    exact cat KX hD (List.contains_iff_mem.mp q.1) (Bool.not_eq_true' _ |>.mp q.2)
theorem isx2 {c:Bx} (hK:c.K=K c.w.params) {D:Nat} {os:List Nat} (hD:(cl8.contains D&&os.all fun C=>cl8.contains C&&!ofC D C)=true):(∀ C∈[D],IsxOk c.b c.K (.ref D) C true)∧∀ C∈os,IsxOk c.b c.K (.ref D) C false:=by
  have z:=Bool.and_eq_true_iff.mp hD
  have hD:=List.contains_iff_mem.mp z.1
  refine ⟨fc (isxY hK hD) fe,fun C hC=>?_⟩
  have q:=Bool.and_eq_true_iff.mp (List.all_eq_true.mp z.2 C hC)
  exact isxN hK hD (List.contains_iff_mem.mp q.1) (Bool.not_eq_true' _ |>.mp q.2)
theorem gx {c:Bx} (hK:c.K=K c.w.params) (KX:(K c.w.params).In c.b) (nm:Nat→Str):GX c (tb nm):=
  ⟨fun x hx=>⟨(xOk x hx).1,_,excs KX _ (xOk x hx).2⟩,fc (sub2 KX rfl) (fc (sub2 KX rfl) (fc (sub2 KX rfl) (fc (sub2 KX rfl) (fc (sub2 KX rfl) (fc (sub2 KX rfl) (fc (sub2 KX rfl) (fc (sub2 KX rfl) (fe)))))))),
    fc (isx2 hK rfl) (fc (isx2 hK rfl) (fc (isx2 hK rfl) (fc (isx2 hK rfl) (fc (isx2 hK rfl) (fc (isx2 hK rfl) (fc (isx2 hK rfl) (fc ⟨fun C hC => .inl ⟨rfl,rfl,catV KX ((by decide:∀ C∈([37,49,61,73,85,97,109]:List Nat),C∈cl8) C hC)⟩,fe⟩ (fe))))))))⟩
noncomputable abbrev spc (body:List PS) (np nv:Nat) (S:Nat→Spec):Spec:=fun ds σ Φ X=>ds.length=np∧vcSs S ⟨retX X,none⟩ body (initE (List.range np) ds nv) σ (retS Φ)
theorem fnv {c:Bx} {n:Nat} {S:Nat→Spec} {nm:Nat→Str} (G:∀ nm,GT c n (tb nm) S) (GE:∀ nm,GX c (tb nm)) {f:Addr} {o:Obj} {fd:FuncData} {body:List PS} (nf:Nat) {np nv:Nat}
    (ho:c.b.get? f=some o) (hd:o.data = .func fd) (hcd:c.b.CodeRec fd.code fd.qualname) (hbody:fd.body = .stmts (embSs ⟨nm,gn⟩ body)) (hclo:fd.closure=[]) (hgl:fd.globals=mainGlobals) (hbu:fd.builtins=builtinsNs)
    (hchk:fnChk nm (List.range nf) (List.range np) fd.scope=true) (hw:wfSs (tb nm) fd.scope.names (List.range nf) body=true) (hbind:∀ us:List Value,us.length=np→bindArgs fd ⟨us,[]⟩=pure (((List.range np).map nm).zip us)):Valid c (n+1) f (spc body np nv S):=
  fn_valid (G nm) (GE nm) ⟨rfl,rfl⟩ ho hd hcd hbody hclo hgl hbu hchk hw (fun us h=>hbind us (h.trans List.length_range)) fun _ _ _ _ h=>⟨h.1.trans List.length_range.symm,h.2⟩
theorem us0 {P:List Value→Prop} (h:P []):∀ us:List Value,us.length=0→P us:=fun us e=>by rw [List.length_eq_zero_iff.mp e]; exact h
theorem usS {P:List Value→Prop} {n:Nat} (h:∀ a,∀ us:List Value,us.length=n→P (a::us)):∀ us:List Value,us.length=n+1→P us:=fun us e=>by
  cases us with
  | nil=>cases e
  | cons a r=>exact h a r (Nat.succ.inj e)
section
variable {c:Bx} (KX:(K c.w.params).In c.b) {n:Nat} {S:Nat→Spec} (G:∀ nm,GT c n (tb nm) S) (GE:∀ nm,GX c (tb nm))
include KX G GE
theorem F_less:Valid c (n+1) 125 (spc p_less 2 3 S):=fnv (nm:=nm_less) G GE 3 (KX 125 _ (by k_is)) rfl (codeRec_of KX (by k_is)) (by kernel_rfl) rfl rfl rfl (by kernel_rfl) (by kernel_rfl) (usS fun a=>usS fun b=>us0 rfl)
theorem F_Kept_entry_of:Valid c (n+1) 170 (spc p_Kept_entry_of 3 4 S):=fnv (nm:=nm_Kept_entry_of) G GE 3 (KX 170 _ (by k_is)) rfl (codeRec_of KX (by k_is)) (by kernel_rfl) rfl rfl rfl (by kernel_rfl) (by kernel_rfl) (usS fun a=>usS fun b=>usS fun c=>us0 rfl)
theorem F_below:Valid c (n+1) 132 (spc p_below 2 5 S):=fnv (nm:=nm_below) G GE 5 (KX 132 _ (by k_is)) rfl (codeRec_of KX (by k_is)) (by kernel_rfl) rfl rfl rfl (by kernel_rfl) (by kernel_rfl) (usS fun a=>usS fun b=>us0 rfl)
theorem F_merged:Valid c (n+1) 144 (spc p_merged 1 8 S):=fnv (nm:=nm_merged) G GE 5 (KX 144 _ (by k_is)) rfl (codeRec_of KX (by k_is)) (by kernel_rfl) rfl rfl rfl (by kernel_rfl) (by kernel_rfl) (usS fun a=>us0 rfl)
theorem F_triple_of:Valid c (n+1) 151 (spc p_triple_of 2 3 S):=fnv (nm:=nm_triple_of) G GE 3 (KX 151 _ (by k_is)) rfl (codeRec_of KX (by k_is)) (by kernel_rfl) rfl rfl rfl (by kernel_rfl) (by kernel_rfl) (usS fun a=>usS fun b=>us0 rfl)
theorem F_Kept_bounds:Valid c (n+1) 196 (spc p_Kept_bounds 2 6 S):=fnv (nm:=nm_Kept_bounds) G GE 6 (KX 196 _ (by k_is)) rfl (codeRec_of KX (by k_is)) (by kernel_rfl) rfl rfl rfl (by kernel_rfl) (by kernel_rfl) (usS fun a=>usS fun b=>us0 rfl)
theorem F_Kept_behind:Valid c (n+1) 203 (spc p_Kept_behind 2 2 S):=fnv (nm:=nm_Kept_behind) G GE 2 (KX 203 _ (by k_is)) rfl (codeRec_of KX (by k_is)) (by kernel_rfl) rfl rfl rfl (by kernel_rfl) (by kernel_rfl) (usS fun a=>usS fun b=>us0 rfl)
theorem F_is_whole:Valid c (n+1) 118 (spc p_is_whole 1 1 S):=fnv (nm:=nm_is_whole) G GE 1 (KX 118 _ (by k_is)) rfl (codeRec_of KX (by k_is)) (by kernel_rfl) rfl rfl rfl (by kernel_rfl) (by kernel_rfl) (usS fun a=>us0 rfl)
theorem F_Table_has_column:Valid c (n+1) 250 (spc p_Table_has_column 2 2 S):=fnv (nm:=nm_Table_has_column) G GE 2 (KX 250 _ (by k_is)) rfl (codeRec_of KX (by k_is)) (by kernel_rfl) rfl rfl rfl (by kernel_rfl) (by kernel_rfl) (usS fun a=>usS fun b=>us0 rfl)
theorem F_is_end:Valid c (n+1) 229 (spc p_is_end 1 1 S):=fnv (nm:=nm_is_end) G GE 1 (KX 229 _ (by k_is)) rfl (codeRec_of KX (by k_is)) (by kernel_rfl) rfl rfl rfl (by kernel_rfl) (by kernel_rfl) (usS fun a=>us0 rfl)
theorem F_Table_is_triple:Valid c (n+1) 264 (spc p_Table_is_triple 2 2 S):=fnv (nm:=nm_Table_is_triple) G GE 2 (KX 264 _ (by k_is)) rfl (codeRec_of KX (by k_is)) (by kernel_rfl) rfl rfl rfl (by kernel_rfl) (by kernel_rfl) (usS fun a=>usS fun b=>us0 rfl)
theorem F_Table_is_order:Valid c (n+1) 278 (spc p_Table_is_order 2 3 S):=fnv (nm:=nm_Table_is_order) G GE 3 (KX 278 _ (by k_is)) rfl (codeRec_of KX (by k_is)) (by kernel_rfl) rfl rfl rfl (by kernel_rfl) (by kernel_rfl) (usS fun a=>usS fun b=>us0 rfl)
theorem F_Kept_put:Valid c (n+1) 177 (spc p_Kept_put 3 4 S):=fnv (nm:=nm_Kept_put) G GE 4 (KX 177 _ (by k_is)) rfl (codeRec_of KX (by k_is)) (by kernel_rfl) rfl rfl rfl (by kernel_rfl) (by kernel_rfl) (usS fun a=>usS fun b=>usS fun c=>us0 rfl)
theorem F_Table_need_row:Valid c (n+1) 257 (spc p_Table_need_row 2 2 S):=fnv (nm:=nm_Table_need_row) G GE 2 (KX 257 _ (by k_is)) rfl (codeRec_of KX (by k_is)) (by kernel_rfl) rfl rfl rfl (by kernel_rfl) (by kernel_rfl) (usS fun a=>usS fun b=>us0 rfl)
theorem F_Kept_drop:Valid c (n+1) 184 (spc p_Kept_drop 3 3 S):=fnv (nm:=nm_Kept_drop) G GE 3 (KX 184 _ (by k_is)) rfl (codeRec_of KX (by k_is)) (by kernel_rfl) rfl rfl rfl (by kernel_rfl) (by kernel_rfl) (usS fun a=>usS fun b=>usS fun c=>us0 rfl)
theorem F_Table_orders:Valid c (n+1) 337 (spc p_Table_orders 1 2 S):=fnv (nm:=nm_Table_orders) G GE 1 (KX 337 _ (by k_is)) rfl (codeRec_of KX (by k_is)) (by kernel_rfl) rfl rfl rfl (by kernel_rfl) (by kernel_rfl) (usS fun a=>us0 rfl)
theorem F_Kept___init__:Valid c (n+1) 165 (spc p_Kept___init__ 2 2 S):=fnv (nm:=nm_Kept___init__) G GE 2 (KX 165 _ (by k_is)) rfl (codeRec_of KX (by k_is)) (by kernel_rfl) rfl rfl rfl (by kernel_rfl) (by kernel_rfl) (usS fun a=>usS fun b=>us0 rfl)
theorem F_Table_numbers:Valid c (n+1) 320 (spc p_Table_numbers 1 1 S):=fnv (nm:=nm_Table_numbers) G GE 1 (KX 320 _ (by k_is)) rfl (codeRec_of KX (by k_is)) (by kernel_rfl) rfl rfl rfl (by kernel_rfl) (by kernel_rfl) (usS fun a=>us0 rfl)
theorem F_Table_kept_of:Valid c (n+1) 285 (spc p_Table_kept_of 2 3 S):=fnv (nm:=nm_Table_kept_of) G GE 3 (KX 285 _ (by k_is)) rfl (codeRec_of KX (by k_is)) (by kernel_rfl) rfl rfl rfl (by kernel_rfl) (by kernel_rfl) (usS fun a=>usS fun b=>us0 rfl)
theorem F_Kept_numbers:Valid c (n+1) 189 (spc p_Kept_numbers 1 2 S):=fnv (nm:=nm_Kept_numbers) G GE 1 (KX 189 _ (by k_is)) rfl (codeRec_of KX (by k_is)) (by kernel_rfl) rfl rfl rfl (by kernel_rfl) (by kernel_rfl) (usS fun a=>us0 rfl)
theorem F_Kept_stretch:Valid c (n+1) 208 (spc p_Kept_stretch 2 8 S):=fnv (nm:=nm_Kept_stretch) G GE 7 (KX 208 _ (by k_is)) rfl (codeRec_of KX (by k_is)) (by kernel_rfl) rfl rfl rfl (by kernel_rfl) (by kernel_rfl) (usS fun a=>usS fun b=>us0 rfl)
theorem F_Kept_covers:Valid c (n+1) 215 (spc p_Kept_covers 2 3 S):=fnv (nm:=nm_Kept_covers) G GE 3 (KX 215 _ (by k_is)) rfl (codeRec_of KX (by k_is)) (by kernel_rfl) rfl rfl rfl (by kernel_rfl) (by kernel_rfl) (usS fun a=>usS fun b=>us0 rfl)
theorem F_Table_need_wish:Valid c (n+1) 271 (spc p_Table_need_wish 2 3 S):=fnv (nm:=nm_Table_need_wish) G GE 3 (KX 271 _ (by k_is)) rfl (codeRec_of KX (by k_is)) (by kernel_rfl) rfl rfl rfl (by kernel_rfl) (by kernel_rfl) (usS fun a=>usS fun b=>us0 rfl)
theorem F_Table_cost_of:Valid c (n+1) 351 (spc p_Table_cost_of 3 4 S):=fnv (nm:=nm_Table_cost_of) G GE 4 (KX 351 _ (by k_is)) rfl (codeRec_of KX (by k_is)) (by kernel_rfl) rfl rfl rfl (by kernel_rfl) (by kernel_rfl) (usS fun a=>usS fun b=>usS fun c=>us0 rfl)
theorem F_Table_costs:Valid c (n+1) 358 (spc p_Table_costs 2 4 S):=fnv (nm:=nm_Table_costs) G GE 4 (KX 358 _ (by k_is)) rfl (codeRec_of KX (by k_is)) (by kernel_rfl) rfl rfl rfl (by kernel_rfl) (by kernel_rfl) (usS fun a=>usS fun b=>us0 rfl)
theorem F_Table_walked:Valid c (n+1) 372 (spc p_Table_walked 3 4 S):=fnv (nm:=nm_Table_walked) G GE 4 (KX 372 _ (by k_is)) rfl (codeRec_of KX (by k_is)) (by kernel_rfl) rfl rfl rfl (by kernel_rfl) (by kernel_rfl) (usS fun a=>usS fun b=>usS fun c=>us0 rfl)
theorem F_fits:Valid c (n+1) 139 (spc p_fits 2 4 S):=fnv (nm:=nm_fits) G GE 4 (KX 139 _ (by k_is)) rfl (codeRec_of KX (by k_is)) (by kernel_rfl) rfl rfl rfl (by kernel_rfl) (by kernel_rfl) (usS fun a=>usS fun b=>us0 rfl)
theorem F_Table_ask_by:Valid c (n+1) 377 (spc p_Table_ask_by 3 4 S):=fnv (nm:=nm_Table_ask_by) G GE 3 (KX 377 _ (by k_is)) rfl (codeRec_of KX (by k_is)) (by kernel_rfl) rfl rfl rfl (by kernel_rfl) (by kernel_rfl) (usS fun a=>usS fun b=>usS fun c=>us0 rfl)
theorem F_Table_plan:Valid c (n+1) 365 (spc p_Table_plan 2 5 S):=fnv (nm:=nm_Table_plan) G GE 5 (KX 365 _ (by k_is)) rfl (codeRec_of KX (by k_is)) (by kernel_rfl) rfl rfl rfl (by kernel_rfl) (by kernel_rfl) (usS fun a=>usS fun b=>us0 rfl)
theorem F_Table___init__:Valid c (n+1) 243 (spc p_Table___init__ 2 2 S):=fnv (nm:=nm_Table___init__) G GE 2 (KX 243 _ (by k_is)) rfl (codeRec_of KX (by k_is)) (by kernel_rfl) rfl rfl rfl (by kernel_rfl) (by kernel_rfl) (usS fun a=>usS fun b=>us0 rfl)
theorem F_Table_put:Valid c (n+1) 292 (spc p_Table_put 2 5 S):=fnv (nm:=nm_Table_put) G GE 5 (KX 292 _ (by k_is)) rfl (codeRec_of KX (by k_is)) (by kernel_rfl) rfl rfl rfl (by kernel_rfl) (by kernel_rfl) (usS fun a=>usS fun b=>us0 rfl)
theorem F_Table_tell:Valid c (n+1) 327 (spc p_Table_tell 2 4 S):=fnv (nm:=nm_Table_tell) G GE 4 (KX 327 _ (by k_is)) rfl (codeRec_of KX (by k_is)) (by kernel_rfl) rfl rfl rfl (by kernel_rfl) (by kernel_rfl) (usS fun a=>usS fun b=>us0 rfl)
theorem F_Table_forget:Valid c (n+1) 332 (spc p_Table_forget 2 4 S):=fnv (nm:=nm_Table_forget) G GE 3 (KX 332 _ (by k_is)) rfl (codeRec_of KX (by k_is)) (by kernel_rfl) rfl rfl rfl (by kernel_rfl) (by kernel_rfl) (usS fun a=>usS fun b=>us0 rfl)
theorem F_Table_listed:Valid c (n+1) 344 (spc p_Table_listed 2 2 S):=fnv (nm:=nm_Table_listed) G GE 2 (KX 344 _ (by k_is)) rfl (codeRec_of KX (by k_is)) (by kernel_rfl) rfl rfl rfl (by kernel_rfl) (by kernel_rfl) (usS fun a=>usS fun b=>us0 rfl)
theorem F_Table_ask:Valid c (n+1) 384 (spc p_Table_ask 2 2 S):=fnv (nm:=nm_Table_ask) G GE 2 (KX 384 _ (by k_is)) rfl (codeRec_of KX (by k_is)) (by kernel_rfl) rfl rfl rfl (by kernel_rfl) (by kernel_rfl) (usS fun a=>usS fun b=>us0 rfl)
theorem F_Table_change:Valid c (n+1) 306 (spc p_Table_change 4 7 S):=fnv (nm:=nm_Table_change) G GE 7 (KX 306 _ (by k_is)) rfl (codeRec_of KX (by k_is)) (by kernel_rfl) rfl rfl rfl (by kernel_rfl) (by kernel_rfl) (usS fun a=>usS fun b=>usS fun c=>usS fun d=>us0 rfl)
theorem F_Table_drop:Valid c (n+1) 299 (spc p_Table_drop 2 4 S):=fnv (nm:=nm_Table_drop) G GE 4 (KX 299 _ (by k_is)) rfl (codeRec_of KX (by k_is)) (by kernel_rfl) rfl rfl rfl (by kernel_rfl) (by kernel_rfl) (usS fun a=>usS fun b=>us0 rfl)
theorem F_law_act:Valid c (n+1) 405 (spc p_law_act 4 4 S):=fnv (nm:=nm_law_act) G GE 4 (KX 405 _ (by k_is)) rfl (codeRec_of KX (by k_is)) (by kernel_rfl) rfl rfl rfl (by kernel_rfl) (by kernel_rfl) (usS fun a=>usS fun b=>usS fun c=>usS fun d=>us0 rfl)
theorem F_Table_row:Valid c (n+1) 313 (spc p_Table_row 2 2 S):=fnv (nm:=nm_Table_row) G GE 2 (KX 313 _ (by k_is)) rfl (codeRec_of KX (by k_is)) (by kernel_rfl) rfl rfl rfl (by kernel_rfl) (by kernel_rfl) (usS fun a=>usS fun b=>us0 rfl)
theorem F_law_state:Valid c (n+1) 462 (spc p_law_state 1 5 S):=fnv (nm:=nm_law_state) G GE 3 (KX 462 _ (by k_is)) rfl (codeRec_of KX (by k_is)) (by kernel_rfl) rfl rfl rfl (by kernel_rfl) (by kernel_rfl) (usS fun a=>us0 rfl)
theorem F_law_said:Valid c (n+1) 412 (spc p_law_said 4 4 S):=fnv (nm:=nm_law_said) G GE 4 (KX 412 _ (by k_is)) rfl (codeRec_of KX (by k_is)) (by kernel_rfl) rfl rfl rfl (by kernel_rfl) (by kernel_rfl) (usS fun a=>usS fun b=>usS fun c=>usS fun d=>us0 rfl)
theorem F_law_any:Valid c (n+1) 419 (spc p_law_any 4 6 S):=fnv (nm:=nm_law_any) G GE 6 (KX 419 _ (by k_is)) rfl (codeRec_of KX (by k_is)) (by kernel_rfl) rfl rfl rfl (by kernel_rfl) (by kernel_rfl) (usS fun a=>usS fun b=>usS fun c=>usS fun d=>us0 rfl)
theorem F_law_holds:Valid c (n+1) 469 (spc p_law_holds 5 6 S):=fnv (nm:=nm_law_holds) G GE 6 (KX 469 _ (by k_is)) rfl (codeRec_of KX (by k_is)) (by kernel_rfl) rfl rfl rfl (by kernel_rfl) (by kernel_rfl) (usS fun a=>usS fun b=>usS fun c=>usS fun d=>usS fun e=>us0 rfl)
theorem F_law_row:Valid c (n+1) 431 (spc p_law_row 3 7 S):=fnv (nm:=nm_law_row) G GE 6 (KX 431 _ (by k_is)) rfl (codeRec_of KX (by k_is)) (by kernel_rfl) rfl rfl rfl (by kernel_rfl) (by kernel_rfl) (usS fun a=>usS fun b=>usS fun c=>us0 rfl)
theorem F_law_order:Valid c (n+1) 438 (spc p_law_order 3 6 S):=fnv (nm:=nm_law_order) G GE 6 (KX 438 _ (by k_is)) rfl (codeRec_of KX (by k_is)) (by kernel_rfl) rfl rfl rfl (by kernel_rfl) (by kernel_rfl) (usS fun a=>usS fun b=>usS fun c=>us0 rfl)
theorem F_law_good_order:Valid c (n+1) 445 (spc p_law_good_order 2 3 S):=fnv (nm:=nm_law_good_order) G GE 3 (KX 445 _ (by k_is)) rfl (codeRec_of KX (by k_is)) (by kernel_rfl) rfl rfl rfl (by kernel_rfl) (by kernel_rfl) (usS fun a=>usS fun b=>us0 rfl)
theorem F_law_at:Valid c (n+1) 398 (spc p_law_at 2 2 S):=fnv (nm:=nm_law_at) G GE 2 (KX 398 _ (by k_is)) rfl (codeRec_of KX (by k_is)) (by kernel_rfl) rfl rfl rfl (by kernel_rfl) (by kernel_rfl) (usS fun a=>usS fun b=>us0 rfl)
theorem F_law_full:Valid c (n+1) 483 (spc p_law_full 4 7 S):=fnv (nm:=nm_law_full) G GE 7 (KX 483 _ (by k_is)) rfl (codeRec_of KX (by k_is)) (by kernel_rfl) rfl rfl rfl (by kernel_rfl) (by kernel_rfl) (usS fun a=>usS fun b=>usS fun c=>usS fun d=>us0 rfl)
theorem F_law_changed:Valid c (n+1) 476 (spc p_law_changed 5 9 S):=fnv (nm:=nm_law_changed) G GE 9 (KX 476 _ (by k_is)) rfl (codeRec_of KX (by k_is)) (by kernel_rfl) rfl rfl rfl (by kernel_rfl) (by kernel_rfl) (usS fun a=>usS fun b=>usS fun c=>usS fun d=>usS fun e=>us0 rfl)
theorem F_law_width:Valid c (n+1) 426 (spc p_law_width 1 2 S):=fnv (nm:=nm_law_width) G GE 2 (KX 426 _ (by k_is)) rfl (codeRec_of KX (by k_is)) (by kernel_rfl) rfl rfl rfl (by kernel_rfl) (by kernel_rfl) (usS fun a=>us0 rfl)
theorem F_law_asked:Valid c (n+1) 490 (spc p_law_asked 5 9 S):=fnv (nm:=nm_law_asked) G GE 9 (KX 490 _ (by k_is)) rfl (codeRec_of KX (by k_is)) (by kernel_rfl) rfl rfl rfl (by kernel_rfl) (by kernel_rfl) (usS fun a=>usS fun b=>usS fun c=>usS fun d=>usS fun e=>us0 rfl)
theorem F_law_good_wish:Valid c (n+1) 457 (spc p_law_good_wish 2 2 S):=fnv (nm:=nm_law_good_wish) G GE 2 (KX 457 _ (by k_is)) rfl (codeRec_of KX (by k_is)) (by kernel_rfl) rfl rfl rfl (by kernel_rfl) (by kernel_rfl) (usS fun a=>usS fun b=>us0 rfl)
theorem F_law_wish:Valid c (n+1) 450 (spc p_law_wish 3 7 S):=fnv (nm:=nm_law_wish) G GE 6 (KX 450 _ (by k_is)) rfl (codeRec_of KX (by k_is)) (by kernel_rfl) rfl rfl rfl (by kernel_rfl) (by kernel_rfl) (usS fun a=>usS fun b=>usS fun c=>us0 rfl)
theorem F_law:Valid c (n+1) 497 (spc p_law 1 11 S):=fnv (nm:=nm_law) G GE 11 (KX 497 _ (by k_is)) rfl (codeRec_of KX (by k_is)) (by kernel_rfl) rfl rfl rfl (by kernel_rfl) (by kernel_rfl) (usS fun a=>us0 rfl)
end
theorem objs {c:Bx} (KX:(K c.w.params).In c.b):∀ g∈fnl,∃ o fd,c.b.get? (ad g)=some o∧o.data = .func fd:=fc ⟨_,_,KX 125 _ (by k_is),rfl⟩ (fc ⟨_,_,KX 170 _ (by k_is),rfl⟩ (fc ⟨_,_,KX 132 _ (by k_is),rfl⟩ (fc ⟨_,_,KX 144 _ (by k_is),rfl⟩ (fc ⟨_,_,KX 151 _ (by k_is),rfl⟩ (fc ⟨_,_,KX 196 _ (by k_is),rfl⟩ (fc ⟨_,_,KX 203 _ (by k_is),rfl⟩ (fc ⟨_,_,KX 118 _ (by k_is),rfl⟩ (fc ⟨_,_,KX 250 _ (by k_is),rfl⟩ (fc ⟨_,_,KX 229 _ (by k_is),rfl⟩ (fc ⟨_,_,KX 264 _ (by k_is),rfl⟩ (fc ⟨_,_,KX 278 _ (by k_is),rfl⟩ (fc ⟨_,_,KX 177 _ (by k_is),rfl⟩ (fc ⟨_,_,KX 257 _ (by k_is),rfl⟩ (fc ⟨_,_,KX 184 _ (by k_is),rfl⟩ (fc ⟨_,_,KX 337 _ (by k_is),rfl⟩ (fc ⟨_,_,KX 165 _ (by k_is),rfl⟩ (fc ⟨_,_,KX 320 _ (by k_is),rfl⟩ (fc ⟨_,_,KX 285 _ (by k_is),rfl⟩ (fc ⟨_,_,KX 189 _ (by k_is),rfl⟩ (fc ⟨_,_,KX 208 _ (by k_is),rfl⟩ (fc ⟨_,_,KX 215 _ (by k_is),rfl⟩ (fc ⟨_,_,KX 271 _ (by k_is),rfl⟩ (fc ⟨_,_,KX 351 _ (by k_is),rfl⟩ (fc ⟨_,_,KX 358 _ (by k_is),rfl⟩ (fc ⟨_,_,KX 372 _ (by k_is),rfl⟩ (fc ⟨_,_,KX 139 _ (by k_is),rfl⟩ (fc ⟨_,_,KX 377 _ (by k_is),rfl⟩ (fc ⟨_,_,KX 365 _ (by k_is),rfl⟩ (fc ⟨_,_,KX 243 _ (by k_is),rfl⟩ (fc ⟨_,_,KX 292 _ (by k_is),rfl⟩ (fc ⟨_,_,KX 327 _ (by k_is),rfl⟩ (fc ⟨_,_,KX 332 _ (by k_is),rfl⟩ (fc ⟨_,_,KX 344 _ (by k_is),rfl⟩ (fc ⟨_,_,KX 384 _ (by k_is),rfl⟩ (fc ⟨_,_,KX 306 _ (by k_is),rfl⟩ (fc ⟨_,_,KX 299 _ (by k_is),rfl⟩ (fc ⟨_,_,KX 405 _ (by k_is),rfl⟩ (fc ⟨_,_,KX 313 _ (by k_is),rfl⟩ (fc ⟨_,_,KX 462 _ (by k_is),rfl⟩ (fc ⟨_,_,KX 412 _ (by k_is),rfl⟩ (fc ⟨_,_,KX 419 _ (by k_is),rfl⟩ (fc ⟨_,_,KX 469 _ (by k_is),rfl⟩ (fc ⟨_,_,KX 431 _ (by k_is),rfl⟩ (fc ⟨_,_,KX 438 _ (by k_is),rfl⟩ (fc ⟨_,_,KX 445 _ (by k_is),rfl⟩ (fc ⟨_,_,KX 398 _ (by k_is),rfl⟩ (fc ⟨_,_,KX 483 _ (by k_is),rfl⟩ (fc ⟨_,_,KX 476 _ (by k_is),rfl⟩ (fc ⟨_,_,KX 426 _ (by k_is),rfl⟩ (fc ⟨_,_,KX 490 _ (by k_is),rfl⟩ (fc ⟨_,_,KX 457 _ (by k_is),rfl⟩ (fc ⟨_,_,KX 450 _ (by k_is),rfl⟩ (fc ⟨_,_,KX 497 _ (by k_is),rfl⟩ (fe))))))))))))))))))))))))))))))))))))))))))))))))))))))
theorem step {c:Bx} (hK:c.K=K c.w.params) (KX:(K c.w.params).In c.b) (B:∀ x:Str,x ≠ "__name__" → c.mb x=bootBuiltins x) {k:Nat} (IH:∀ g∈fnl,Valid c (2*k) (ad g) (SS k g)):∀ g∈fnl,Valid c (2*k+1+1) (ad g) (SS (k+1) g):=
  have G:=gt hK KX B IH
  have GE:=gx hK KX
  fc (F_less KX G GE) (fc (F_Kept_entry_of KX G GE) (fc (F_below KX G GE) (fc (F_merged KX G GE) (fc (F_triple_of KX G GE) (fc (F_Kept_bounds KX G GE) (fc (F_Kept_behind KX G GE) (fc (F_is_whole KX G GE) (fc (F_Table_has_column KX G GE) (fc (F_is_end KX G GE) (fc (F_Table_is_triple KX G GE) (fc (F_Table_is_order KX G GE) (fc (F_Kept_put KX G GE) (fc (F_Table_need_row KX G GE) (fc (F_Kept_drop KX G GE) (fc (F_Table_orders KX G GE) (fc (F_Kept___init__ KX G GE) (fc (F_Table_numbers KX G GE) (fc (F_Table_kept_of KX G GE) (fc (F_Kept_numbers KX G GE) (fc (F_Kept_stretch KX G GE) (fc (F_Kept_covers KX G GE) (fc (F_Table_need_wish KX G GE) (fc (F_Table_cost_of KX G GE) (fc (F_Table_costs KX G GE) (fc (F_Table_walked KX G GE) (fc (F_fits KX G GE) (fc (F_Table_ask_by KX G GE) (fc (F_Table_plan KX G GE) (fc (F_Table___init__ KX G GE) (fc (F_Table_put KX G GE) (fc (F_Table_tell KX G GE) (fc (F_Table_forget KX G GE) (fc (F_Table_listed KX G GE) (fc (F_Table_ask KX G GE) (fc (F_Table_change KX G GE) (fc (F_Table_drop KX G GE) (fc (F_law_act KX G GE) (fc (F_Table_row KX G GE) (fc (F_law_state KX G GE) (fc (F_law_said KX G GE) (fc (F_law_any KX G GE) (fc (F_law_holds KX G GE) (fc (F_law_row KX G GE) (fc (F_law_order KX G GE) (fc (F_law_good_order KX G GE) (fc (F_law_at KX G GE) (fc (F_law_full KX G GE) (fc (F_law_changed KX G GE) (fc (F_law_width KX G GE) (fc (F_law_asked KX G GE) (fc (F_law_good_wish KX G GE) (fc (F_law_wish KX G GE) (fc (F_law KX G GE) (fe))))))))))))))))))))))))))))))))))))))))))))))))))))))
theorem vall {c:Bx} (hK:c.K=K c.w.params) (KX:(K c.w.params).In c.b) (B:∀ x:Str,x ≠ "__name__" → c.mb x=bootBuiltins x):∀ k,∀ g∈fnl,Valid c (2*k) (ad g) (SS k g)
  | 0=>fun g hg=>by
    obtain ⟨o,fd,h1,h2⟩:=objs KX g hg
    exact valid_no h1 h2
  | k+1=>step hK KX B (vall hK KX B k)
theorem V_law (c:Bx) (hK:c.K=K c.w.params) (KX:(K c.w.params).In c.b) (B:∀ x:Str,x ≠ "__name__" → c.mb x=bootBuiltins x):Valid c 26 497 (SS 13 79):=vall hK KX B 13 79 (by decide)
theorem said:PySem.Challenge.rw_uf040016_08.wellSaid=true:=by kernel_rfl
end Mine.L08
set_option tactic.hygienic true in
set_option maxRecDepth 100000 in
set_option maxHeartbeats 8000000 in
theorem PySem.Challenge.cw_uf040016_08_holds : PySem.Challenge.rw_uf040016_08.Holds := by
  w_on
  refine holds_law Mine.L08.said fun said=>?_
  refine holds_open (q:=Mine.L08.q) (loose:=[]) (Xt:=fun s=>xlAt Mine.L08.q [] s&&recOk [] s) (XP:=XL Mine.L08.q []) (Yf:=Hook.obs Mine.L08.H) (Ya:=Hook.val Mine.L08.H) (YP:=Hook.says Mine.L08.H) (N:=4187) Mine.L08.left (Hook.of Mine.L08.H) (Hook.keeps Mine.L08.H) (fun s e=>xl_of s (Bool.and_eq_true_iff.mp e).1) XL.keeps (by rfl) (by rfl) (by rfl) (fun s e=>recFacts_of (Bool.and_eq_true_iff.mp e).2) (by rfl) (by assumption) (by decide +kernel) ⟨rfl,rfl,rfl,rfl,rfl,by decide +kernel⟩ ?hw ?hc
  case hw=>w_witness2
  case hc=>
  k_fill
  intro w s₀ s₁ mg mb G Y fa o pm cd doc dV kV ho hd hcd hD hmg hg args vals as hpre hlay hrd hwl hlo
  have KX:=kIn_of Y
  refine Ground.open G ?_
  intro T B D TE TW
  wrow_args hpre hlay hrd hwl hlo
  refine enter_call ?_
  rename s₁.heap.IsList _ _=>hL
  rename IntsAre _ _=>hI
  rename ¬ ((63:Nat):Int)<_=>hm
  have e:=(mg_of (n:=Str.ofString "law") KX T.g (by k_is)).symm.trans hmg
  cases e
  refine Mine.law_good (c:=⟨_,w,s₁.heap,mg,mb,T.g,T.b,T.nolimit,Mine.L08.K w.params,KX⟩) (Mine.L08.V_law _ rfl KX T.builtins) rfl ?_ hL hI hg (Mine.L08.law_ok (k:=0) ?_ fun _=>rfl) ?_ ?_
  · exact ⟨rfl,by decide,by decide⟩
  · omega
  · intro x; rfl
  · wrow_post
