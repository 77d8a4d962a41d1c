import PyProof.Rows.All
import Wide.All
import OpenK.AllK
import Wide.FinOn
import HandS.ForMost
import HandS.Dict
import HandS.Set
import HandS.SetFor
import HandS.SetKeys
import PyProof.Rows.SortStr
import HandS.ForExc
import HandS.CallSlots
import HandS.Wide
import HandS.IsInst
import HandS.Codes
import HandS.Zip
import HandS.EndBits
import HandS.TupAny
import HandS.Style
import HandS.Flow
import HandS.Iter
import HandS.TupMul
import PyProof.Rows.IntBool
import HandS.Deep
import HandS.TupLe
import HandS.StrMore
import HandS.More
import KE.GoesEnum
import HandS.Conv
import HandS.Rev
import PyProof.ReprRoads
import KE.KDictZip
import HandS.Zip0
import HandS.Defaults
import HandS.Head0
import HandS.Head1
import HandS.Head2
import HandS.HeadEnd
import HandS.HeadHook1
import HandS.HeadHook2
import PySem.Challenge.RW_movebeats_k48_whole_plain_runs_go_on
set_option Elab.async false
set_option linter.all false
set_option maxRecDepth 100000
namespace DL
open PySem PySem.Spec PyProof.Rows L2
/-! sets of ints and texts -/
def keyM : Value → Key
  | .int k _ => .inl k
  | .str x _ => .inr x
  | _ => .inl 0
def GoodM (P : Program) (w : World) (e : Int × Value) : Prop := RelV (kV (keyM e.2)) e.2 ∧ e.1 = (mixKind P w).hash (keyM e.2)
theorem keyM_of {k : Key} {u : Value} (r : RelV (kV k) u) : keyM u = k := by
  cases k with
  | inl i => obtain ⟨t, e⟩ := (show ∃ t, u = Value.int i t from r); subst e; rfl
  | inr x => obtain ⟨t, e⟩ := (show ∃ t, u = Value.str x t from r); subst e; rfl
theorem scan_of {k : Key} {u : Value} (r : RelV (kV k) u) : u.scannable = true := key_scan r
/-- the set at a has just the keys ks; its table can be walked -/
def SetM (P : Program) (w : World) (h : Heap) (a : Addr) (ks : List Key) : Prop :=
  ∃ o es ep t, h.get? a = some o ∧ o.ExactSet ∧ o.data = .set es ep t ∧ (∀ e ∈ es.toList, GoodM P w e) ∧ (es.toList.map fun e => keyM e.2).Perm ks ∧ ks.Nodup ∧
    es.size < scanBound ∧ t.fits es.size = true ∧ Ris t.place.toList ∧ (w.params.followText "set-order" = true ∨ t.led = true)
def hasK (ks : List Key) (k : Key) : Bool := ks.any fun j => decide (j = k)
theorem hasK_iff {ks : List Key} {k : Key} : hasK ks k = true ↔ k ∈ ks := by
  unfold hasK
  rw [List.any_eq_true]
  exact ⟨fun ⟨j, h, e⟩ => (of_decide_eq_true e) ▸ h, fun h => ⟨k, h, decide_eq_true rfl⟩⟩
def ddK (ks : List Key) (k : Key) : List Key := if hasK ks k = true then ks else ks ++ [k]
theorem ddK_nodup {ks : List Key} {k : Key} (h : ks.Nodup) : (ddK ks k).Nodup := by
  unfold ddK
  split
  · exact h
  · rename_i n
    rw [List.nodup_append]
    exact ⟨h, by simp, fun a ha b hb => by rw [List.mem_singleton] at hb; subst hb; intro e; subst e; exact n (hasK_iff.mpr ha)⟩
theorem mem_ddK {ks : List Key} {k j : Key} : j ∈ ddK ks k ↔ j ∈ ks ∨ j = k := by
  unfold ddK
  split
  · rename_i h
    exact ⟨.inl, fun z => z.elim id fun e => e ▸ hasK_iff.mp h⟩
  · simp
theorem ddK_len {ks : List Key} {k : Key} : (ddK ks k).length ≤ ks.length + 1 := by
  unfold ddK
  split <;> simp
def ddAll (ks : List Key) : List Key := ks.foldl ddK []
section
variable {P : Program} {w : World} {A : Around} {E : Value → Shared → Prop} {s : Shared} {a : Addr} {ks : List Key}
theorem goodM_elems {l : List (Int × Value)} (g : ∀ e ∈ l, GoodM P w e) : ElemsOf (mixKind P w) l := fun e he =>
  ⟨⟨keyM e.2, kV_is (g e he).1, (g e he).2⟩, scan_of (g e he).1⟩
theorem goodM_is {e : Int × Value} (g : GoodM P w e) (k : Key) : (mixKind P w).is k e.2 = true ↔ keyM e.2 = k := by
  constructor
  · intro h
    exact (mixKind P w).inj _ _ _ (kV_is g.1) h
  · intro h
    rw [← h]
    exact kV_is g.1
theorem tailM {g : Bool → Sem Unit} (hg : ∀ (b : Bool) (s₁ : Shared) (Q' : Unit → Shared → Prop), Q' () s₁ → wpAny (model P w) A (g b) Q' E s₁)
    {o : Obj} {es : Array (Int × Value)} {ep : Nat} {t : SetTable} (ho : s.heap.get? a = some o) (hex : o.ExactSet) (hd : o.data = .set es ep t)
    {es1 : Array (Int × Value)} {t2 : SetTable} {ks1 : List Key} (g1 : ∀ e ∈ es1.toList, GoodM P w e) (p1 : (es1.toList.map fun e => keyM e.2).Perm ks1) (nd1 : ks1.Nodup)
    (hb1 : es1.size < scanBound) (hf2 : t2.fits es1.size = true) (hr : Ris t2.place.toList) (hl : w.params.followText "set-order" = true ∨ t2.led = true) {wasDummy : Bool} {R : Option Bool → Shared → Prop}
    (hR : ∀ h', Heap.SameBut a s.heap h' → SetM P w h' a ks1 → R (some true) { s with heap := h' }) :
    wpAny (model P w) A (do
        storeSet a es1 t2
        if (!wasDummy && t2.tooFull) = true then do
            g (relayAll t2 es1 (SetTable.grown es1.size)).2.2
            storeSet a (relayAll t2 es1 (SetTable.grown es1.size)).1 (relayAll t2 es1 (SetTable.grown es1.size)).2.1
            pure (some true)
          else pure (some true)) R E s := by
  refine wpAny_bind (wpAny_storeSet_of ho hd ?_ (fits_of_scanBound hb1))
  have ho1 := store_at (es' := es1) (t' := t2) ho hd
  have sb1 := Heap.SameBut.update s.heap a (Obj.putSet es1 t2)
  split
  · have pm := relayAll_perm t2 es1 (SetTable.grown es1.size)
    have hf3 := relayAll_fits t2 es1 (SetTable.grown es1.size)
    have hr3 := relayAll_ris t2 es1 (SetTable.grown es1.size)
    have hl3 := relayAll_led t2 es1 (SetTable.grown es1.size)
    generalize relayAll t2 es1 (SetTable.grown es1.size) = Z at pm hf3 hr3 hl3 ⊢
    obtain ⟨es2, t3, gave⟩ := Z
    dsimp only at pm hf3 hr3 hl3 ⊢
    have hb2 : es2.size < scanBound := by
      have e : es2.size = es1.size := by rw [← Array.length_toList, pm.length_eq, Array.length_toList]
      omega
    refine wpAny_bind (hg _ _ _ (wpAny_bind (wpAny_storeSet_of ho1 rfl ?_ (fits_of_scanBound hb2))))
    have ho2 := store_at (es' := es2) (t' := t3) ho1 rfl
    exact wpAny_pure (hR _ (sb1.trans (Heap.SameBut.update _ a _)) ⟨_, es2, _, t3, ho2, hex, rfl, fun e he => g1 e (pm.mem_iff.mp he), (pm.map _).trans p1, nd1, hb2, hf3, hr3, hl.imp id fun z => by rw [hl3]; exact z⟩)
  · exact wpAny_pure (hR _ sb1 ⟨_, es1, _, t2, ho1, hex, rfl, g1, p1, nd1, hb1, hf2, hr, hl⟩)
/-- one more -/
theorem addM {k : Key} {u : Value} {Q : Bool → Shared → Prop} (ru : RelV (kV k) u) (R : SetM P w s.heap a ks) (room : ks.length + 1 < scanBound)
    (hQ : ∀ b h', Heap.SameBut a s.heap h' → SetM P w h' a (ddK ks k) → Q b { s with heap := h' }) :
    wpAny (model P w) A (setAddHashed a u ((mixKind P w).hash k)) Q E s := by
  obtain ⟨o, es, ep, t, ho, hex, hd, g, pk, nd, hb, hf, hr, hl⟩ := R
  have hel : ElemsOf (mixKind P w) es.toList := goodM_elems g
  have hsc := scan_of ru
  unfold setAddHashed setAddHashedIn
  refine wpAny_holding (wpAny_bind (wpAny_setState_of ho hd hf ?_))
  dsimp only
  rw [byScan_of hsc hb hel]
  simp only [↓reduceIte]
  unfold setAddByScan
  refine wpAny_bind (wpAny_bind (wpAny_rule (wpAny_bind (wpAny_setScan_of (kV_is ru) ho hd hf hel ?_))))
  cases hfi : List.findIdx? (fun e => (mixKind P w).is k e.2) es.toList with
  | some j =>
    dsimp only
    obtain ⟨hj, pj, _⟩ := List.findIdx?_eq_some_iff_getElem.mp hfi
    have hm : k ∈ ks := pk.mem_iff.mp (List.mem_map.mpr ⟨es.toList[j], List.getElem_mem hj, (goodM_is (g _ (List.getElem_mem hj)) k).1 pj⟩)
    refine wpAny_pure (wpAny_pure (hQ false s.heap (Heap.SameBut.refl a s.heap) ⟨o, es, ep, t, ho, hex, hd, g, ?_, ddK_nodup nd, hb, hf, hr, hl⟩))
    unfold ddK
    rw [if_pos (hasK_iff.mpr hm)]
    exact pk
  | none =>
    dsimp only
    have hnk : k ∉ ks := fun z => by
      obtain ⟨e, he, q⟩ := List.mem_map.mp (pk.mem_iff.mpr z)
      have c := List.findIdx?_eq_none_iff.mp hfi e he
      rw [(goodM_is (g e he) k).2 q] at c
      cases c
    have pm := layNew_perm t es ((mixKind P w).hash k) u
    have hf1 := layNew_fits t es ((mixKind P w).hash k) u
    have hr1 := layNew_ris t es ((mixKind P w).hash k) u hr
    have hl1 := layNew_led t es ((mixKind P w).hash k) u
    generalize layNew t es ((mixKind P w).hash k) u = Z at pm hf1 hr1 hl1 ⊢
    obtain ⟨es1, t1, wasDummy, gave⟩ := Z
    dsimp only at pm hf1 hr1 hl1 ⊢
    rw [Array.toList_push] at pm
    have g1 : ∀ e ∈ es1.toList, GoodM P w e := fun e he => by
      rcases List.mem_append.mp (pm.mem_iff.mp he) with z | z
      · exact g e z
      · rw [List.mem_singleton] at z
        subst z
        have ek := keyM_of ru
        exact ⟨by rw [ek]; exact ru, by rw [ek]⟩
    have p1 : (es1.toList.map fun e => keyM e.2).Perm (ddK ks k) := by
      have q := pm.map fun e : Int × Value => keyM e.2
      rw [List.map_append] at q
      unfold ddK
      rw [if_neg (fun z => hnk (hasK_iff.mp z))]
      refine q.trans (pk.append ?_)
      show [keyM u].Perm [k]
      rw [keyM_of ru]
    have hsz : es1.size = ks.length + 1 := by
      have := p1.length_eq
      unfold ddK at this
      rw [if_neg (fun z => hnk (hasK_iff.mp z)), List.length_append, List.length_map, Array.length_toList] at this
      exact this
    have hb1 : es1.size < scanBound := by omega
    have hled : w.params.followText "set-order" = true ∨ t1.led = true := hl.imp id fun z => by rw [hl1]; exact z
    refine wpAny_bind ?_
    have hgw : ∀ (b : Bool) {s₁ : Shared} {Q' : Unit → Shared → Prop}, Q' () s₁ → wpAny (model P w) A (match b with | true => rule "set.scan.the-table-gave-way" | false => pure ()) Q' E s₁ :=
      fun b s₁ Q' q => by cases b <;> first | exact wpAny_pure q | exact wpAny_rule q
    refine hgw _ ?_
    split
    · refine wpAny_bind ?_
      rw [hashByValue_scannable 8 hsc]
      refine wpAny_pure ?_
      refine tailM ?_ ho hex hd g1 p1 (ddK_nodup nd) hb1 ?_ ?_ ?_ ?_
      · intro b s₁ Q' q; cases b <;> first | exact wpAny_pure q | exact wpAny_rule q
      · first | (split <;> first | exact hf1 | exact SetTable.fits_plain_off hf1) | exact hf1
      · first | (split <;> exact hr1) | exact hr1
      · first | (split <;> exact hled) | exact hled
      · intro h' sb r; dsimp only; exact wpAny_pure (hQ true h' sb r)
    · refine wpAny_bind (wpAny_pure ?_)
      simp only [↓reduceIte]
      refine tailM ?_ ho hex hd g1 p1 (ddK_nodup nd) hb1 hf1 hr1 hled ?_
      · intro b s₁ Q' q; cases b <;> first | exact wpAny_pure q | exact wpAny_rule q
      · intro h' sb r; dsimp only; exact wpAny_pure (hQ true h' sb r)
theorem SetM.at {h h' : Heap} (R : SetM P w h a ks) (k : ∀ o, h.get? a = some o → h'.get? a = some o) : SetM P w h' a ks := by
  obtain ⟨o, es, ep, t, ho, r⟩ := R
  exact ⟨o, es, ep, t, k o ho, r⟩
theorem SetM.lt {h : Heap} (R : SetM P w h a ks) : a < h.objs.size := by
  obtain ⟨o, es, ep, t, ho, r⟩ := R
  exact Heap.lt_size ho
theorem setM_fresh {h : Heap} (ho : h.get? a = some { cls := .type "set", dict := none, data := .set #[] 0 (.fresh 0 0 (!w.params.followText "set-order")) }) : SetM P w h a [] :=
  ⟨_, #[], 0, _, ho, ⟨rfl, rfl, rfl⟩, rfl, (fun e he => by simp at he), .nil, List.nodup_nil, (by decide), (by rfl), List.Pairwise.nil, by
    show _ ∨ (!w.params.followText "set-order") = true
    cases w.params.followText "set-order"
    · exact .inr rfl
    · exact .inl rfl⟩
theorem ddAll_len_ : ∀ (ls acc : List Key), (ls.foldl ddK acc).length ≤ acc.length + ls.length
  | [], acc => by simp
  | k :: r, acc => by
    have h1 := ddAll_len_ r (ddK acc k)
    have h2 : (ddK acc k).length ≤ acc.length + 1 := ddK_len
    rw [List.foldl_cons, List.length_cons]
    omega
theorem ddAll_len (ls : List Key) : (ddAll ls).length ≤ ls.length := by
  have := ddAll_len_ ls []
  simpa [ddAll] using this
theorem vals_key : ∀ {ls : List Key} {us : List Value} {i : Nat} {v : Value}, Vals (ls.map kV) us → us[i]? = some v → ∃ k, ls[i]? = some k ∧ RelV (kV k) v
  | [], _, i, v, .nil, h => by simp at h
  | k :: ls, _, 0, v, .cons r t, h => by
    cases h
    exact ⟨k, rfl, r⟩
  | k :: ls, _, i + 1, v, .cons r t, h => by
    obtain ⟨j, h1, h2⟩ := vals_key (ls := ls) (i := i) (v := v) t (by simpa using h)
    exact ⟨j, by simpa using h1, h2⟩

theorem updM {I : Addr} {fp wr : List Addr} {Gs : Array GenState → Array GenState → Prop} {n : Nat} {Pv : Nat → Value → Prop} {St : Nat → Shared → Prop} {R : Result → Shared → Prop}
    (W : WalksS P w A.in1 I fp wr Gs n Pv St) (S : Addr) (hSf : S ∉ fp) (ls : List Key) (hn : n = ls.length) (hb : ls.length + 1 < scanBound) (hval : ∀ i v, Pv i v → ∃ k, ls[i]? = some k ∧ RelV (kV k) v) :
    ∀ (m i : Nat) (s : Shared), n - i = m → i ≤ n → St i s → SetM P w s.heap S (ddAll (ls.take i)) →
      (∀ s', Moved (S :: wr) Gs s s' → SetM P w s'.heap S (ddAll ls) → R (.ok (.ret .none)) s') →
      codeAny (model P w) A (.builtin "set.update.loop" ⟨[.ref S, .ref I], []⟩) R s := by
  have hSw : S ∉ wr := fun h => hSf (W.sub _ h)
  have hsub : ∀ b ∈ wr, b ∈ S :: wr := fun b hb => List.mem_cons_of_mem _ hb
  intro m
  induction m with
  | zero =>
    intro i s hk' hi hst hS hR
    obtain rfl : i = n := by omega
    refine codeAny_builtin F.entry_set_update_loop ?_
    rw [Around.under_plainId F.plain_set_update_loop _]
    show wpAny _ A.in1 (pyNext (.ref I) >>= _) _ _ s
    refine wpAny_bind (W.done s _ _ hst fun s' hm => ?_)
    rw [show ls.take i = ls from List.take_of_length_le (by omega)] at hS
    show wpAny _ A.in1 (ret Value.none) _ _ s'
    exact wpAny_pure (hR s' (hm.mono hsub) (hS.at fun o e => hm.heap S o hSw e))
  | succ m ih =>
    intro i s hk' hi hst hS hR
    have hlt : i < n := by omega
    refine codeAny_builtin F.entry_set_update_loop ?_
    rw [Around.under_plainId F.plain_set_update_loop _]
    show wpAny _ A.in1 (pyNext (.ref I) >>= _) _ _ s
    refine wpAny_bind (W.item i s _ _ hlt hst fun v s' hP hst' hm => ?_)
    obtain ⟨z, hz, rz⟩ := hval i v hP
    have hS' : SetM P w s'.heap S (ddAll (ls.take i)) := hS.at fun o e => hm.heap S o hSw e
    show wpAny _ A.in1 (holding [v] (setAdd S v) >>= _) _ _ s'
    refine wpAny_bind (wpAny_holding ?_)
    unfold setAdd
    refine wpAny_holding (wpAny_bind ((mixKind P w).pyHash (k := z) (kV_is rz) ?_))
    refine addM (s := { s' with toks := s'.toks + 1 }) rz hS' (by have := ddAll_len (ls.take i); rw [List.length_take] at this; omega) fun _ h' hsb hS2 => ?_
    have hS3 : SetM P w h' S (ddAll (ls.take (i + 1))) := by
      rw [List.take_add_one, hz]
      unfold ddAll
      rw [Option.toList_some, List.foldl_append]
      exact hS2
    refine wpAny_pure ⟨plainId_quiet F.plain_set_update_loop _, ih (i + 1) _ (by omega) hlt (W.frame _ s' _ _ hst' (Nat.le_succ _) fun b hb o e => ?_) hS3 fun s'' hm'' hS'' => ?_⟩
    · rw [hsb.2 b (fun h : b = S => hSf (by rw [← h]; exact hb))]; exact e
    · refine hR s'' (Moved.trans W.gtrans ((hm.mono hsub).then_heap (Nat.le_succ _) fun b o hb e => ?_) hm'') hS''
      rw [hsb.2 b (fun h : b = S => hb (by rw [h]; exact List.mem_cons_self))]; exact e
abbrev setO0 (w : World) : Obj := { cls := .type "set", dict := none, data := .set #[] 0 (.fresh 0 0 (!w.params.followText "set-order")) }

set_option maxHeartbeats 0 in
/-- set(xs), xs a list of keys -/
theorem call_setM_list {l : Addr} {items : Array Value} (ls : List Key) {Q : Value → Shared → Prop} (hh : A.handled = none) (hl : s.heap.IsList l items) (hit : Vals (ls.map kV) items.toList) (hb : ls.length + 1 < scanBound)
    (h : ∀ (h' : Heap) (tk : Nat), SetM P w h' s.heap.objs.size (ddAll ls) → (∀ b o, s.heap.get? b = some o → h'.get? b = some o) → Q (.ref s.heap.objs.size) { s with heap := h', toks := tk }) :
    wpAny (model P w) A (call (.type "set") [.ref l]) Q E s := by
  have hisz : items.size = ls.length := by
    have q := hit.length
    rw [List.length_map, Array.length_toList] at q
    exact q.symm
  obtain ⟨c, tl, hmro⟩ := F.called_set.mro
  have hmade := F.called_set.made
  have hsub := F.called_set.sub
  refine wpAny_call (codeAny_of_tree ?_)
  show wpAny _ _ (callAny (.type "set") _) _ _ _
  refine wpAny_pure ⟨Code.quiet_builtin _ (by decide +kernel), codeAny_builtin F.entry_type_call ?_⟩
  rw [Around.under_plain (weight_type_call_type "set" [.ref l] []) rfl]
  have h1 := F.called_set.notType
  have h2 := F.called_set.canCreate
  have hct := F.typeCall_set_1 (.ref l)
  repeat (any_goals (first | assumption | wp_step))
  refine codeAny_mono (code_set_led1 (.ref l) (E := E) (Q₁ := fun obj s₁ => obj = .ref s.heap.objs.size ∧ s₁ = { s with heap := s.heap.push (setO0 w) }) ⟨rfl, rfl⟩) fun r s₁ hr => ?_
  cases r with
  | error e => exact hr
  | ok fl =>
    cases fl with
    | ret obj =>
      obtain ⟨rfl, rfl⟩ := hr
      have hS : (s.heap.push (setO0 w)).get? s.heap.objs.size = some (setO0 w) := Heap.get?_push_size _ rfl
      have hT : Shared.TypeIs { s with heap := s.heap.push (setO0 w) } (.ref s.heap.objs.size) "set" := ⟨_, hS, rfl⟩
      have hli := F.called_set.init.lookup
      have hbi := F.called_set.init.bind (.ref s.heap.objs.size)
      repeat (any_goals (first | assumption | wp_step))
      refine codeAny_mono (codeAny_call_builtin (R := wants (fun r s₂ => r = .none ∧ ∃ h' tk, s₂ = { s with heap := h', toks := tk } ∧ SetM P w h' s.heap.objs.size (ddAll ls) ∧
          (∀ b o, s.heap.get? b = some o → h'.get? b = some o)) E) F.called_set.init.plain F.entry_set_init (check_set_init_1 hT ?_)) fun r₂ s₂ hr₂ => ?_
      · obtain ⟨ol, hol, hcl, nl, hdl⟩ := hl
        obtain ⟨ocls, odict, odata, oslots⟩ := ol
        simp only at hcl hdl
        subst hcl; subst hdl
        have hol' : (s.heap.push (setO0 w)).get? l = some { cls := .type "list", dict := odict, data := .seq items nl, slots := oslots } := Heap.get?_push_of_some _ hol
        have hsls := F.sub_list_set
        have hslf := F.sub_list_frozenset
        have hne : (Value.type "list" == Value.type "dict") = false := by decide
        have hl1 : (s.heap.push (setO0 w)).IsList l items := ⟨_, hol', rfl, nl, rfl⟩
        unfold Builtin.«set.__init__» noKeywords Builtin.Frozenset.updateFrom
        generalize hPI : pyIter = PI
        wp_walk
        subst hPI
        refine wpAny_pyIter_list hl1 ?_
        refine wpAny_bind (wpAny_runValue ?_)
        have hlS : l < s.heap.objs.size := Heap.lt_size hol
        have hh3 : A.in1.in1.in1.handled = none := by simp [hh]
        have hz1 : (s.heap.push (setO0 w)).objs.size = s.heap.objs.size + 1 := Heap.size_push ..
        have hneI : l ≠ (s.heap.push (setO0 w)).objs.size := by rw [hz1]; exact Nat.ne_of_lt (Nat.lt_succ_of_lt hlS)
        have hSf : s.heap.objs.size ∉ [(s.heap.push (setO0 w)).objs.size, l] := by
          simp only [List.mem_cons, List.not_mem_nil, or_false, not_or]
          exact ⟨by rw [hz1]; exact Nat.ne_of_lt (Nat.lt_succ_self _), Nat.ne_of_gt hlS⟩
        have hval : ∀ (i : Nat) (v : Value), items[i]? = some v → ∃ k, ls[i]? = some k ∧ RelV (kV k) v := fun i v hv => vals_key hit (by rw [Array.getElem?_toList]; exact hv)
        refine updM ((Walks.list hh3 _ l hneI items).toS) s.heap.objs.size hSf ls hisz hb hval (items.size - 0) 0 _ (by omega) (Nat.zero_le _)
          ⟨⟨_, Heap.get?_push_size _ rfl, rfl, rfl⟩, (hl1.push _)⟩ ?hS0 ?hR
        case hS0 => exact setM_fresh (Heap.get?_push_of_some _ hS)
        case hR =>
          intro s' hm hS'
          obtain ⟨h', g2, d', tk', os'⟩ := s'
          have eg : g2 = s.gens := hm.gens
          have ed : d' = s.drawn := hm.drawn
          have eo : os' = s.os := hm.os
          subst eg; subst ed; subst eo
          show wpAny _ _ _ _ _ _
          refine wpAny_pure ?_
          show wpAny _ _ (ret Value.none) _ _ _
          refine wpAny_pure ⟨rfl, h', tk', rfl, hS', fun b o e => ?_⟩
          have hb0 : b < s.heap.objs.size := Heap.lt_size e
          refine hm.heap b o ?_ (Heap.get?_push_of_some _ (Heap.get?_push_of_some _ e))
          simp only [List.mem_cons, List.not_mem_nil, or_false, not_or]
          exact ⟨Nat.ne_of_lt hb0, by rw [hz1]; exact Nat.ne_of_lt (Nat.lt_succ_of_lt hb0)⟩
      · cases r₂ with
        | error e => exact hr₂
        | ok fl₂ =>
          cases fl₂ with
          | ret r =>
            obtain ⟨rfl, h', tk, rfl, hS', hk'⟩ := hr₂
            repeat (any_goals (first | assumption | wp_step))
            exact h _ _ hS' hk'
          | _ => exact hr₂.elim
    | _ => exact hr.elim

set_option maxHeartbeats 0 in
/-- set(xs), xs a tuple of keys -/
theorem call_setM_tuple {l : Addr} {items : Array Value} (ls : List Key) {Q : Value → Shared → Prop} (hh : A.handled = none) (hl : s.heap.IsTuple l items) (hit : Vals (ls.map kV) items.toList) (hb : ls.length + 1 < scanBound)
    (h : ∀ (h' : Heap) (tk : Nat), SetM P w h' s.heap.objs.size (ddAll ls) → (∀ b o, s.heap.get? b = some o → h'.get? b = some o) → Q (.ref s.heap.objs.size) { s with heap := h', toks := tk }) :
    wpAny (model P w) A (call (.type "set") [.ref l]) Q E s := by
  have hisz : items.size = ls.length := by
    have q := hit.length
    rw [List.length_map, Array.length_toList] at q
    exact q.symm
  obtain ⟨c, tl, hmro⟩ := F.called_set.mro
  have hmade := F.called_set.made
  have hsub := F.called_set.sub
  refine wpAny_call (codeAny_of_tree ?_)
  show wpAny _ _ (callAny (.type "set") _) _ _ _
  refine wpAny_pure ⟨Code.quiet_builtin _ (by decide +kernel), codeAny_builtin F.entry_type_call ?_⟩
  rw [Around.under_plain (weight_type_call_type "set" [.ref l] []) rfl]
  have h1 := F.called_set.notType
  have h2 := F.called_set.canCreate
  have hct := F.typeCall_set_1 (.ref l)
  repeat (any_goals (first | assumption | wp_step))
  refine codeAny_mono (code_set_led1 (.ref l) (E := E) (Q₁ := fun obj s₁ => obj = .ref s.heap.objs.size ∧ s₁ = { s with heap := s.heap.push (setO0 w) }) ⟨rfl, rfl⟩) fun r s₁ hr => ?_
  cases r with
  | error e => exact hr
  | ok fl =>
    cases fl with
    | ret obj =>
      obtain ⟨rfl, rfl⟩ := hr
      have hS : (s.heap.push (setO0 w)).get? s.heap.objs.size = some (setO0 w) := Heap.get?_push_size _ rfl
      have hT : Shared.TypeIs { s with heap := s.heap.push (setO0 w) } (.ref s.heap.objs.size) "set" := ⟨_, hS, rfl⟩
      have hli := F.called_set.init.lookup
      have hbi := F.called_set.init.bind (.ref s.heap.objs.size)
      repeat (any_goals (first | assumption | wp_step))
      refine codeAny_mono (codeAny_call_builtin (R := wants (fun r s₂ => r = .none ∧ ∃ h' tk, s₂ = { s with heap := h', toks := tk } ∧ SetM P w h' s.heap.objs.size (ddAll ls) ∧
          (∀ b o, s.heap.get? b = some o → h'.get? b = some o)) E) F.called_set.init.plain F.entry_set_init (check_set_init_1 hT ?_)) fun r₂ s₂ hr₂ => ?_
      · obtain ⟨ol, hol, hcl, nl, hdl⟩ := hl
        obtain ⟨ocls, odict, odata, oslots⟩ := ol
        simp only at hcl hdl
        subst hcl; subst hdl
        have hol' : (s.heap.push (setO0 w)).get? l = some { cls := .type "tuple", dict := odict, data := .seq items nl, slots := oslots } := Heap.get?_push_of_some _ hol
        have hsls := F.sub_tuple_set
        have hslf := F.sub_tuple_frozenset
        have hne : (Value.type "tuple" == Value.type "dict") = false := by decide
        have hl1 : (s.heap.push (setO0 w)).IsTuple l items := ⟨_, hol', rfl, nl, rfl⟩
        unfold Builtin.«set.__init__» noKeywords Builtin.Frozenset.updateFrom
        generalize hPI : pyIter = PI
        wp_walk
        subst hPI
        refine wpAny_pyIter_tuple hl1 ?_
        refine wpAny_bind (wpAny_runValue ?_)
        have hlS : l < s.heap.objs.size := Heap.lt_size hol
        have hh3 : A.in1.in1.in1.handled = none := by simp [hh]
        have hz1 : (s.heap.push (setO0 w)).objs.size = s.heap.objs.size + 1 := Heap.size_push ..
        have hneI : l ≠ (s.heap.push (setO0 w)).objs.size := by rw [hz1]; exact Nat.ne_of_lt (Nat.lt_succ_of_lt hlS)
        have hSf : s.heap.objs.size ∉ [(s.heap.push (setO0 w)).objs.size, l] := by
          simp only [List.mem_cons, List.not_mem_nil, or_false, not_or]
          exact ⟨by rw [hz1]; exact Nat.ne_of_lt (Nat.lt_succ_self _), Nat.ne_of_gt hlS⟩
        have hval : ∀ (i : Nat) (v : Value), items[i]? = some v → ∃ k, ls[i]? = some k ∧ RelV (kV k) v := fun i v hv => vals_key hit (by rw [Array.getElem?_toList]; exact hv)
        refine updM ((Walks.tuple hh3 _ l hneI items).toS) s.heap.objs.size hSf ls hisz hb hval (items.size - 0) 0 _ (by omega) (Nat.zero_le _)
          ⟨⟨_, Heap.get?_push_size _ rfl, rfl, rfl⟩, (hl1.push _)⟩ ?hS0 ?hR
        case hS0 => exact setM_fresh (Heap.get?_push_of_some _ hS)
        case hR =>
          intro s' hm hS'
          obtain ⟨h', g2, d', tk', os'⟩ := s'
          have eg : g2 = s.gens := hm.gens
          have ed : d' = s.drawn := hm.drawn
          have eo : os' = s.os := hm.os
          subst eg; subst ed; subst eo
          show wpAny _ _ _ _ _ _
          refine wpAny_pure ?_
          show wpAny _ _ (ret Value.none) _ _ _
          refine wpAny_pure ⟨rfl, h', tk', rfl, hS', fun b o e => ?_⟩
          have hb0 : b < s.heap.objs.size := Heap.lt_size e
          refine hm.heap b o ?_ (Heap.get?_push_of_some _ (Heap.get?_push_of_some _ e))
          simp only [List.mem_cons, List.not_mem_nil, or_false, not_or]
          exact ⟨Nat.ne_of_lt hb0, by rw [hz1]; exact Nat.ne_of_lt (Nat.lt_succ_of_lt hb0)⟩
      · cases r₂ with
        | error e => exact hr₂
        | ok fl₂ =>
          cases fl₂ with
          | ret r =>
            obtain ⟨rfl, h', tk, rfl, hS', hk'⟩ := hr₂
            repeat (any_goals (first | assumption | wp_step))
            exact h _ _ hS' hk'
          | _ => exact hr₂.elim
    | _ => exact hr.elim

end
end DL

namespace DL
open PySem PySem.Spec PyProof.Rows
/-! strict linear orders, sorted lists without doubles -/
structure Lin {α : Type} (lt : α → α → Bool) : Prop where
  irr : ∀ a, lt a a = false
  tr : ∀ a b c, lt a b = true → lt b c = true → lt a c = true
  tot : ∀ a b, lt a b = true ∨ a = b ∨ lt b a = true
section
variable {α : Type} {lt : α → α → Bool}
def insO (lt : α → α → Bool) (x : α) : List α → List α
  | [] => [x]
  | y :: r => if lt x y = true then x :: y :: r else if lt y x = true then y :: insO lt x r else y :: r
def srtO (lt : α → α → Bool) : List α → List α
  | [] => []
  | x :: r => insO lt x (srtO lt r)
def Inc (lt : α → α → Bool) (l : List α) : Prop := l.Pairwise fun a b => lt a b = true
theorem mem_insO (L : Lin lt) {x z : α} : ∀ {l : List α}, z ∈ insO lt x l ↔ z = x ∨ z ∈ l
  | [] => by simp [insO]
  | y :: r => by
    unfold insO
    split
    · simp
    · rename_i h1
      split
      · simp only [List.mem_cons, mem_insO L (l := r)]
        constructor
        · rintro (h | h | h)
          · exact .inr (.inl h)
          · exact .inl h
          · exact .inr (.inr h)
        · rintro (h | h | h)
          · exact .inr (.inl h)
          · exact .inl h
          · exact .inr (.inr h)
      · rename_i h2
        have e : x = y := by
          rcases L.tot x y with h | h | h
          · exact (h1 h).elim
          · exact h
          · exact (h2 h).elim
        subst e
        simp
theorem inc_insO (L : Lin lt) {x : α} : ∀ {l : List α}, Inc lt l → Inc lt (insO lt x l)
  | [], _ => by simp [insO, Inc]
  | y :: r, h => by
    have h' := List.pairwise_cons.mp h
    unfold insO
    split
    · rename_i hx
      refine List.pairwise_cons.mpr ⟨fun z hz => ?_, h⟩
      rcases List.mem_cons.mp hz with e | hz
      · rw [e]; exact hx
      · exact L.tr _ _ _ hx (h'.1 z hz)
    · split
      · rename_i hy
        refine List.pairwise_cons.mpr ⟨fun z hz => ?_, inc_insO L h'.2⟩
        rcases (mem_insO L).mp hz with e | hz
        · rw [e]; exact hy
        · exact h'.1 z hz
      · exact h
theorem mem_srtO (L : Lin lt) {z : α} : ∀ {l : List α}, z ∈ srtO lt l ↔ z ∈ l
  | [] => by simp [srtO]
  | x :: r => by
    unfold srtO
    rw [mem_insO L, mem_srtO L, List.mem_cons]
theorem inc_srtO (L : Lin lt) : ∀ {l : List α}, Inc lt (srtO lt l)
  | [] => .nil
  | x :: r => inc_insO L (inc_srtO L)
theorem inc_eq (L : Lin lt) : ∀ {l m : List α}, Inc lt l → Inc lt m → (∀ z, z ∈ l ↔ z ∈ m) → l = m
  | [], [], _, _, _ => rfl
  | [], y :: m, _, _, h => absurd ((h y).mpr (by simp)) (by simp)
  | x :: l, [], _, _, h => absurd ((h x).mp (by simp)) (by simp)
  | x :: l, y :: m, hl, hm, h => by
    have hl' := List.pairwise_cons.mp hl
    have hm' := List.pairwise_cons.mp hm
    have e : x = y := by
      rcases List.mem_cons.mp ((h x).mp (by simp)) with e | hx
      · exact e
      · rcases List.mem_cons.mp ((h y).mpr (by simp)) with e | hy
        · exact e.symm
        · have a := hm'.1 x hx
          have b := hl'.1 y hy
          have c := L.tr _ _ _ a b
          rw [L.irr] at c
          cases c
    subst e
    rw [inc_eq L hl'.2 hm'.2 fun z => ?_]
    constructor
    · intro hz
      rcases List.mem_cons.mp ((h z).mp (by simp [hz])) with e | q
      · subst e
        have c := hl'.1 z hz
        rw [L.irr] at c
        cases c
      · exact q
    · intro hz
      rcases List.mem_cons.mp ((h z).mpr (by simp [hz])) with e | q
      · subst e
        have c := hm'.1 z hz
        rw [L.irr] at c
        cases c
      · exact q
theorem srtO_eq (L : Lin lt) {l m : List α} (h : Inc lt l) (k : ∀ z, z ∈ l ↔ z ∈ m) : l = srtO lt m := inc_eq L h (inc_srtO L) fun z => by rw [k z, mem_srtO L]
theorem srtO_congr (L : Lin lt) {l m : List α} (k : ∀ z, z ∈ l ↔ z ∈ m) : srtO lt l = srtO lt m := inc_eq L (inc_srtO L) (inc_srtO L) fun z => by rw [mem_srtO L, mem_srtO L, k z]
theorem inc_nodup (L : Lin lt) {l : List α} (h : Inc lt l) : l.Nodup := List.Pairwise.imp (fun {a b} q e => by subst e; rw [L.irr] at q; cases q) h
theorem srtO_nodup (L : Lin lt) {l : List α} : (srtO lt l).Nodup := inc_nodup L (inc_srtO L)
theorem srtO_len (L : Lin lt) {l : List α} : (srtO lt l).length ≤ l.length := by
  have := (srtO_nodup L (l := l)).length_le_of_subset (l₂ := l)
  exact this fun z hz => (mem_srtO L).mp hz
theorem srtO_self (L : Lin lt) {l : List α} (h : Inc lt l) : srtO lt l = l := (srtO_eq L h fun _ => Iff.rfl).symm
end
def ltI (a b : Int) : Bool := decide (a < b)
theorem linI : Lin ltI := ⟨fun a => by simp [ltI], fun a b c h1 h2 => by simp [ltI] at *; omega, fun a b => by simp [ltI]; omega⟩
def ltS (a b : Str) : Bool := decide (a.cps.toList < b.cps.toList)
theorem Str.ext' {a b : Str} (h : a.cps.toList = b.cps.toList) : a = b := by
  cases a; cases b
  exact congrArg Str.mk (Array.toList_inj.mp h)
theorem linS : Lin ltS where
  irr := fun a => by simp [ltS, List.lt_irrefl]
  tr := fun a b c h1 h2 => by
    simp only [ltS, decide_eq_true_eq] at *
    exact List.lt_trans h1 h2
  tot := fun a b => by
    simp only [ltS, decide_eq_true_eq]
    by_cases h : a.cps.toList < b.cps.toList
    · exact .inl h
    · by_cases h2 : b.cps.toList < a.cps.toList
      · exact .inr (.inr h2)
      · exact .inr (.inl (Str.ext' (List.le_antisymm (List.not_lt.mp h2) (List.not_lt.mp h))))
theorem rising_all : ∀ {p : Str} {l : List Str}, risingS p l = true → ∀ x ∈ l, ltS x p = false
  | p, [], _, x, h => by simp at h
  | p, y :: r, h, x, hx => by
    have h : (!ltCps y.cps.toList p.cps.toList && risingS y r) = true := h
    rw [Bool.and_eq_true, ltCps_eq] at h
    have h1 : ltS y p = false := by simpa [ltS] using h.1
    rcases List.mem_cons.mp hx with e | hx
    · rw [e]; exact h1
    · have h2 := rising_all h.2 x hx
      cases e : ltS x p with
      | false => rfl
      | true =>
        rcases linS.tot y p with q | q | q
        · rw [q] at h1; cases h1
        · subst q; rw [e] at h2; cases h2
        · rw [linS.tr _ _ _ e q] at h2; cases h2
theorem sortedS_inc : ∀ {l : List Str}, sortedS l = true → l.Nodup → Inc ltS l
  | [], _, _ => .nil
  | x :: r, h, nd => by
    have h : risingS x r = true := h
    have nd' := List.nodup_cons.mp nd
    refine List.pairwise_cons.mpr ⟨fun y hy => ?_, sortedS_inc ?_ nd'.2⟩
    · have q := rising_all h y hy
      rcases linS.tot x y with z | z | z
      · exact z
      · subst z; exact (nd'.1 hy).elim
      · rw [z] at q; cases q
    · cases r with
      | nil => rfl
      | cons y r =>
        have h : (!ltCps y.cps.toList x.cps.toList && risingS y r) = true := h
        rw [Bool.and_eq_true] at h
        exact h.2
end DL

namespace DL
open PySem PySem.Spec PyProof.Rows L2
theorem mem_ddAll_ {z : Key} : ∀ {ls acc : List Key}, z ∈ ls.foldl ddK acc ↔ z ∈ acc ∨ z ∈ ls
  | [], acc => by simp
  | k :: r, acc => by
    rw [List.foldl_cons, mem_ddAll_, mem_ddK, List.mem_cons]
    constructor
    · rintro ((h | h) | h)
      · exact .inl h
      · exact .inr (.inl h)
      · exact .inr (.inr h)
    · rintro (h | h | h)
      · exact .inl (.inl h)
      · exact .inl (.inr h)
      · exact .inr h
theorem mem_ddAll {z : Key} {ls : List Key} : z ∈ ddAll ls ↔ z ∈ ls := by
  unfold ddAll
  rw [mem_ddAll_]
  simp
theorem nodup_ddAll_ : ∀ {ls acc : List Key}, acc.Nodup → (ls.foldl ddK acc).Nodup
  | [], acc, h => h
  | k :: r, acc, h => nodup_ddAll_ (ls := r) (ddK_nodup h)
theorem nodup_ddAll {ls : List Key} : (ddAll ls).Nodup := nodup_ddAll_ .nil
theorem ddAll_few {ls C : List Key} (h : ∀ k ∈ ls, k ∈ C) : (ddAll ls).length ≤ C.length := nodup_ddAll.length_le_of_subset fun z hz => h z (mem_ddAll.mp hz)
section
variable {P : Program} {w : World} {A : Around} {E : Value → Shared → Prop} {s : Shared} {a : Addr} {ks : List Key}
/-- the sorted list of a set's members, by what the sort leaves of them -/
theorem sortedM_ {Q : Value → Shared → Prop} {κ : PyProof.Rows.KeyKind} (hO : κ.OneLt) (R : SetM P w s.heap a ks) (hh : A.handled = none) (h64 : ks.length < 64)
    (hK : ∀ vs : List Value, (∀ v ∈ vs, RelV (kV (keyM v)) v ∧ keyM v ∈ ks) → PyProof.Rows.KeysOf κ (pairsOf vs) ∧ ∀ v₁ v₂ rest, vs = v₁ :: v₂ :: rest → keyKind' (v₁ :: v₂ :: rest).toArray = pure oneType')
    (hQ : ∀ s' p (vs : List Value) (xs : Array Keyed) (c : Nat), (∀ b o, s.heap.get? b = some o → s'.heap.get? b = some o) → s'.gens = s.gens → s'.os = s.os → s.heap.objs.size ≤ p →
      s'.heap.get? p = some (seqObj "list" (xs.map (·.2)) c) → (∀ v ∈ vs, RelV (kV (keyM v)) v) → (vs.map keyM).Perm ks → xs.Perm (pairsOf vs) → SortedToK κ xs (pairsOf vs).size → Q (.ref p) s') :
    wpAny (model P w) A (call (.builtin "sorted") [.ref a]) Q E s := by
  obtain ⟨o, es, ep, t, ho, hex, hd, g, pk, nd, hb, hf, hr, hl⟩ := R
  refine Calls.call_function_entry kind_sorted plain_sorted entry_sorted (args_sorted1 _) ?_
  unfold Builtin.«sorted»
  refine wpAny_bind (m := checkCount "sorted" 1 1 _) (wpAny_pure (wpAny_bind (collect_set (A := A.in1) hh ⟨o, ho, hex.1, hd⟩ hf hb hr hl fun s1 vs k1 hz g1 o1 pm => ?_)))
  have pv : (vs.map keyM).Perm ks := by
    have q := pm.map keyM
    rw [List.map_map] at q
    exact q.trans pk
  have hvl : vs.length = ks.length := by rw [← pv.length_eq, List.length_map]
  have hg : ∀ v ∈ vs, RelV (kV (keyM v)) v := fun v hv => by
    obtain ⟨e, he, q⟩ := List.mem_map.mp (pm.mem_iff.mp hv)
    rw [← q]
    exact (g e he).1
  obtain ⟨hk1, hk2⟩ := hK vs fun v hv => ⟨hg v hv, pv.mem_iff.mp (List.mem_map.mpr ⟨v, hv, rfl⟩)⟩
  refine wpAny_bind (wpAny_newList ?_ (by rw [hvl, sizeLine_eq]; omega))
  have hoL : (s1.heap.push (seqObj "list" vs.toArray 0)).get? s1.heap.objs.size = some (seqObj "list" vs.toArray 0) := Heap.get?_push_size _ rfl
  refine wpAny_bind (wpAny_holding (wpAny_call_entry slot_list_sort ⟨_, hoL, rfl⟩ entry_list_sort (list_sort_treeK hO hoL hk1 hk2 (by rw [hvl]; exact h64) fun st' a1 a2 => ⟨_, rfl, ?_⟩) (args_list_sort _)))
  obtain ⟨c, hc⟩ := sortedHeap_at (vs := vs) (out := (arrOf st').map (·.2)) hoL
  refine wpAny_pure ⟨_, rfl, hQ _ s1.heap.objs.size vs (arrOf st') c (fun b u e => ?_) g1 o1 hz hc hg pv a1 a2⟩
  have q := k1 b u e
  have hlt := Heap.lt_size q
  show (sortedHeap (s1.heap.push (seqObj "list" vs.toArray 0)) s1.heap.objs.size vs _).get? b = some u
  rw [sortedHeap_old (Nat.ne_of_lt hlt) (by rw [size_push']; exact Nat.lt_succ_of_lt hlt)]
  exact Heap.get?_push_of_some _ q
theorem strs_keyM : ∀ {vs : List Value}, (∀ v ∈ vs, RelV (kV (keyM v)) v ∧ ∃ x, keyM v = .inr x) → StrsAre vs (vs.map strOf)
  | [], _ => .nil
  | v :: vs, h => by
    obtain ⟨h1, x, e⟩ := h v (by simp)
    rw [e] at h1
    obtain ⟨t, rfl⟩ := (show ∃ t, v = Value.str x t from h1)
    exact .cons x t (strs_keyM fun u hu => h u (by simp [hu]))
theorem ints_keyM : ∀ {vs : List Value}, (∀ v ∈ vs, RelV (kV (keyM v)) v ∧ ∃ x, keyM v = .inl x) → ∃ ns, IntsAre vs ns ∧ vs.map keyM = ns.map Sum.inl
  | [], _ => ⟨[], .nil, rfl⟩
  | v :: vs, h => by
    obtain ⟨h1, x, e⟩ := h v (by simp)
    obtain ⟨ns, h2, h3⟩ := ints_keyM (vs := vs) fun u hu => h u (by simp [hu])
    rw [e] at h1
    obtain ⟨t, rfl⟩ := (show ∃ t, v = Value.int x t from h1)
    exact ⟨x :: ns, .cons x t h2, by rw [List.map_cons, List.map_cons, h3]; rfl⟩
theorem key_strs : ∀ {vs : List Value}, (∀ v ∈ vs, RelV (kV (keyM v)) v ∧ ∃ x, keyM v = .inr x) → vs.map keyM = (vs.map strOf).map Sum.inr
  | [], _ => rfl
  | v :: vs, h => by
    obtain ⟨h1, x, e⟩ := h v (by simp)
    rw [e] at h1
    obtain ⟨t, rfl⟩ := (show ∃ t, v = Value.str x t from h1)
    rw [List.map_cons, List.map_cons, List.map_cons, key_strs fun u hu => h u (by simp [hu])]
    rfl
theorem inr_inj {l : List Str} {x : Str} : (Sum.inr x : Key) ∈ l.map Sum.inr ↔ x ∈ l := by
  rw [List.mem_map]
  exact ⟨fun ⟨y, h, e⟩ => by cases e; exact h, fun h => ⟨x, h, rfl⟩⟩
theorem inl_inj {l : List Int} {x : Int} : (Sum.inl x : Key) ∈ l.map Sum.inl ↔ x ∈ l := by
  rw [List.mem_map]
  exact ⟨fun ⟨y, h, e⟩ => by cases e; exact h, fun h => ⟨x, h, rfl⟩⟩
theorem nodup_inr {l : List Str} (h : (l.map (Sum.inr : Str → Key)).Nodup) : l.Nodup := List.Pairwise.of_map _ (fun _ _ hne e => hne (congrArg _ e)) h
theorem nodup_inl {l : List Int} (h : (l.map (Sum.inl : Int → Key)).Nodup) : l.Nodup := List.Pairwise.of_map _ (fun _ _ hne e => hne (congrArg _ e)) h
theorem SetM.nd {h : Heap} (R : SetM P w h a ks) : ks.Nodup := by
  obtain ⟨_, _, _, _, _, _, _, _, _, nd, _⟩ := R
  exact nd
/-- sorted(s), s a set of texts -/
theorem sortedM_str {Q : Value → Shared → Prop} {xs : List Str} (R : SetM P w s.heap a ks) (hks : ∀ k, k ∈ ks ↔ k ∈ xs.map Sum.inr) (hh : A.handled = none) (h64 : ks.length < 64)
    (hQ : ∀ s' p (out : Array Value) (c : Nat), (∀ b o, s.heap.get? b = some o → s'.heap.get? b = some o) → s'.gens = s.gens → s'.os = s.os → s.heap.objs.size ≤ p →
      s'.heap.get? p = some (seqObj "list" out c) → StrsAre out.toList (srtO ltS xs) → Q (.ref p) s') :
    wpAny (model P w) A (call (.builtin "sorted") [.ref a]) Q E s := by
  have allr : ∀ k ∈ ks, ∃ x, k = .inr x := fun k hk => by
    obtain ⟨x, _, e⟩ := List.mem_map.mp ((hks k).mp hk)
    exact ⟨x, e.symm⟩
  refine sortedM_ PyProof.Rows.strKind_oneLt R hh h64 (fun vs hv => ?_) fun s' p vs ys c k1 g1 o1 hp hc hg pv hpm hs => ?_
  · have hS := strs_keyM fun v h => ⟨(hv v h).1, allr _ (hv v h).2⟩
    exact ⟨hS.keysOf, fun v₁ v₂ rest e => keyKind_strs (by rw [← e]; exact hS)⟩
  · have hr : ∀ v ∈ vs, RelV (kV (keyM v)) v ∧ ∃ x, keyM v = .inr x := fun v h => ⟨hg v h, allr _ (pv.mem_iff.mp (List.mem_map.mpr ⟨v, h, rfl⟩))⟩
    have hS := strs_keyM hr
    obtain ⟨ss', h1, h2, h3⟩ := sorted_out_str hS hpm hs
    have kk := key_strs hr
    have nd : ss'.Nodup := by
      refine h2.nodup_iff.mpr (nodup_inr ?_)
      rw [← kk]
      exact pv.nodup_iff.mpr R.nd
    have e : ss' = srtO ltS xs := srtO_eq linS (sortedS_inc h3 nd) fun z => by
      rw [h2.mem_iff, ← inr_inj, ← kk, pv.mem_iff, hks, inr_inj]
    rw [e] at h1
    exact hQ s' p _ c k1 g1 o1 hp hc h1
/-- sorted(s), s a set of ints -/
theorem sortedM_int {Q : Value → Shared → Prop} {xs : List Int} (R : SetM P w s.heap a ks) (hks : ∀ k, k ∈ ks ↔ k ∈ xs.map Sum.inl) (hh : A.handled = none) (h64 : ks.length < 64)
    (hQ : ∀ s' p (out : Array Value) (c : Nat), (∀ b o, s.heap.get? b = some o → s'.heap.get? b = some o) → s'.gens = s.gens → s'.os = s.os → s.heap.objs.size ≤ p →
      s'.heap.get? p = some (seqObj "list" out c) → IntsAre out.toList (srtO ltI xs) → Q (.ref p) s') :
    wpAny (model P w) A (call (.builtin "sorted") [.ref a]) Q E s := by
  obtain ⟨o, es, ep, t, ho, hex, hd, g, pk, nd, hb, hf, hr, hl⟩ := R
  refine Calls.call_function_entry kind_sorted plain_sorted entry_sorted (args_sorted1 _) ?_
  unfold Builtin.«sorted»
  refine wpAny_bind (m := checkCount "sorted" 1 1 _) (wpAny_pure (wpAny_bind (collect_set (A := A.in1) hh ⟨o, ho, hex.1, hd⟩ hf hb hr hl fun s1 vs k1 hz g1 o1 pm => ?_)))
  have pv : (vs.map keyM).Perm ks := by
    have q := pm.map keyM
    rw [List.map_map] at q
    exact q.trans pk
  have hvl : vs.length = ks.length := by rw [← pv.length_eq, List.length_map]
  obtain ⟨ns, hI, en⟩ := ints_keyM (vs := vs) fun v hv => by
    obtain ⟨e, he, q⟩ := List.mem_map.mp (pm.mem_iff.mp hv)
    obtain ⟨x, _, ex⟩ := List.mem_map.mp ((hks _).mp (pv.mem_iff.mp (List.mem_map.mpr ⟨v, hv, rfl⟩)))
    exact ⟨by rw [← q]; exact (g e he).1, x, ex.symm⟩
  refine wpAny_bind (wpAny_newList ?_ (by rw [hvl, sizeLine_eq]; omega))
  have hoL : (s1.heap.push (seqObj "list" vs.toArray 0)).get? s1.heap.objs.size = some (seqObj "list" vs.toArray 0) := Heap.get?_push_size _ rfl
  refine wpAny_bind (wpAny_holding (wpAny_call_entry slot_list_sort ⟨_, hoL, rfl⟩ entry_list_sort (list_sort_tree hoL hI (by rw [hvl]; exact h64) fun out ns' a1 a2 a3 => ⟨_, rfl, ?_⟩) (args_list_sort _)))
  obtain ⟨c, hc⟩ := sortedHeap_at (vs := vs) (out := out) hoL
  have nd' : ns'.Nodup := by
    refine a2.nodup_iff.mpr (nodup_inl ?_)
    rw [← en]
    exact pv.nodup_iff.mpr nd
  have e : ns' = srtO ltI xs := srtO_eq linI (List.Pairwise.imp (fun {x y} h => by simp [ltI, h]) (lt_of_le_nodup ns' a3 nd')) fun z => by
    rw [a2.mem_iff, ← inl_inj, ← en, pv.mem_iff, hks, inl_inj]
  rw [e] at a1
  refine wpAny_pure ⟨_, rfl, hQ _ s1.heap.objs.size out c (fun b u e => ?_) g1 o1 hz hc a1⟩
  have q := k1 b u e
  have hlt := Heap.lt_size q
  show (sortedHeap (s1.heap.push (seqObj "list" vs.toArray 0)) s1.heap.objs.size vs out).get? b = some u
  rw [sortedHeap_old (Nat.ne_of_lt hlt) (by rw [size_push']; exact Nat.lt_succ_of_lt hlt)]
  exact Heap.get?_push_of_some _ q
end
end DL

namespace DL
open PySem PySem.Spec PyProof.Rows L2
/-! data without the heap: tuples by value, all that can change by its address -/
inductive D where
  | non | bl (b : Bool) | int (i : Int) | str (x : Str) | ref (a : Addr) | ty (n : String)
  | tup (ds : List D)
  | sc (ds : List D)
  | rl (ds : List D)
  | rd (ks : List Key) (ds : List D)
/-- a list that is only read: the script -/
def RoL (K : PySem.W.Frag) (H : Hp) (a : Addr) (xs : List V) : Prop :=
  (∃ o, H a = some (.frz o (.lst xs))) ∨ ∃ (o : Obj) (its : Array Value) (n : Nat), K.lookup a = some o ∧ o.cls = .type "list" ∧ o.dict = none ∧ o.data = .seq its n ∧ its.size ≤ sizeLine ∧ Vals xs its.toList
theorem RoL.sq {K : PySem.W.Frag} {H : Hp} {a : Addr} {xs : List V} (h : RoL K H a xs) : SqL K H a xs := by
  rcases h with h | h
  · exact .inl (.inr h)
  · exact .inr h
theorem frz_sq {K : PySem.W.Frag} {H : Hp} {a : Addr} {o : Obj} {xs : List V} (h : H a = some (.frz o (.lst xs))) : SqL K H a xs := .inl (.inr ⟨o, h⟩)
mutual
inductive Rep (K : PySem.W.Frag) (H : Hp) : V → D → Prop
  | non : Rep K H .non .non
  | bl (b : Bool) : Rep K H (.bl b) (.bl b)
  | int (i : Int) : Rep K H (.int i) (.int i)
  | str (x : Str) : Rep K H (.str x) (.str x)
  | ref (a : Addr) : Rep K H (.ref a) (.ref a)
  | ty (n : String) : Rep K H (.ty n) (.ty n)
  | tup {a : Addr} {vs : List V} {ds : List D} : SqT K H a vs → Reps K H vs ds → Rep K H (.ref a) (.tup ds)
  | sc {a : Addr} {vs : List V} {ds : List D} : RoL K H a vs → Reps K H vs ds → Rep K H (.ref a) (.sc ds)
  | rl {a : Addr} {o : Obj} {vs : List V} {ds : List D} : H a = some (.frz o (.lst vs)) → Reps K H vs ds → Rep K H (.ref a) (.rl ds)
  | rd {a : Addr} {o : Obj} {m : List (Key × V)} {ks : List Key} {ds : List D} : H a = some (.frz o (.dK m)) → m.map (·.1) = ks → Reps K H (m.map (·.2)) ds → Rep K H (.ref a) (.rd ks ds)
inductive Reps (K : PySem.W.Frag) (H : Hp) : List V → List D → Prop
  | nil : Reps K H [] []
  | cons {v : V} {vs : List V} {d : D} {ds : List D} : Rep K H v d → Reps K H vs ds → Reps K H (v :: vs) (d :: ds)
end
/-- tuples stay -/
structure TupExt (K : PySem.W.Frag) (H H' : Hp) : Prop where
  t : ∀ a xs, SqT K H a xs → SqT K H' a xs
  l : ∀ a xs, RoL K H a xs → RoL K H' a xs
  d : ∀ a o u, H a = some (.frz o u) → H' a = some (.frz o u)
theorem TupExt.refl {K : PySem.W.Frag} {H : Hp} : TupExt K H H := ⟨fun _ _ h => h, fun _ _ h => h, fun _ _ _ h => h⟩
theorem TupExt.trans {K : PySem.W.Frag} {H H1 H2 : Hp} (a : TupExt K H H1) (b : TupExt K H1 H2) : TupExt K H H2 := ⟨fun c xs h => b.t c xs (a.t c xs h), fun c xs h => b.l c xs (a.l c xs h), fun c o u h => b.d c o u (a.d c o u h)⟩
section
variable {K : PySem.W.Frag} {H H' : Hp}
mutual
theorem Rep.mono (t : TupExt K H H') : ∀ {v : V} {d : D}, Rep K H v d → Rep K H' v d
  | _, _, .non => .non
  | _, _, .bl b => .bl b
  | _, _, .int i => .int i
  | _, _, .str x => .str x
  | _, _, .ref a => .ref a
  | _, _, .ty n => .ty n
  | _, _, .tup h r => .tup (t.t _ _ h) (Reps.mono t r)
  | _, _, .sc h r => .sc (t.l _ _ h) (Reps.mono t r)
  | _, _, .rl h r => .rl (t.d _ _ _ h) (Reps.mono t r)
  | _, _, .rd h e r => .rd (t.d _ _ _ h) e (Reps.mono t r)
theorem Reps.mono (t : TupExt K H H') : ∀ {vs : List V} {ds : List D}, Reps K H vs ds → Reps K H' vs ds
  | _, _, .nil => .nil
  | _, _, .cons a b => .cons (Rep.mono t a) (Reps.mono t b)
end
theorem Reps.length : ∀ {vs : List V} {ds : List D}, Reps K H vs ds → vs.length = ds.length
  | _, _, .nil => rfl
  | _, _, .cons _ b => by rw [List.length_cons, List.length_cons, Reps.length b]
theorem Reps.get : ∀ {vs : List V} {ds : List D} {i : Nat} {d : D}, Reps K H vs ds → ds[i]? = some d → ∃ v, vs[i]? = some v ∧ Rep K H v d
  | _, _, _, _, .nil, e => by simp at e
  | _, _, 0, _, .cons a _, e => by
    have e' := Option.some.inj e
    subst e'
    exact ⟨_, rfl, a⟩
  | _, _, i + 1, d, .cons _ b, e => by
    obtain ⟨v, h1, h2⟩ := Reps.get (i := i) (d := d) b (by simpa using e)
    exact ⟨v, by simpa using h1, h2⟩
theorem Reps.getV : ∀ {vs : List V} {ds : List D} {i : Nat} {v : V}, Reps K H vs ds → vs[i]? = some v → ∃ d, ds[i]? = some d ∧ Rep K H v d
  | _, _, _, _, .nil, e => by simp at e
  | _, _, 0, _, .cons a _, e => by
    have e' := Option.some.inj e
    subst e'
    exact ⟨_, rfl, a⟩
  | _, _, i + 1, d, .cons _ b, e => by
    obtain ⟨v, h1, h2⟩ := Reps.getV (i := i) (v := d) b (by simpa using e)
    exact ⟨v, by simpa using h1, h2⟩
theorem Reps.append : ∀ {vs ws : List V} {ds es : List D}, Reps K H vs ds → Reps K H ws es → Reps K H (vs ++ ws) (ds ++ es)
  | _, _, _, _, .nil, s => s
  | _, _, _, _, .cons a b, s => .cons a (Reps.append b s)
theorem Reps.set {x : V} {d : D} (r : Rep K H x d) : ∀ {vs : List V} {ds : List D} (i : Nat), Reps K H vs ds → Reps K H (vs.set i x) (ds.set i d)
  | _, _, _, .nil => .nil
  | _, _, 0, .cons _ t => .cons r t
  | _, _, i + 1, .cons q t => .cons q (Reps.set r i t)
theorem Reps.take : ∀ {vs : List V} {ds : List D} (n : Nat), Reps K H vs ds → Reps K H (vs.take n) (ds.take n)
  | _, _, 0, _ => .nil
  | _, _, _ + 1, .nil => .nil
  | _, _, n + 1, .cons r t => .cons r (Reps.take n t)
theorem Reps.drop : ∀ {vs : List V} {ds : List D} (n : Nat), Reps K H vs ds → Reps K H (vs.drop n) (ds.drop n)
  | _, _, 0, r => r
  | _, _, _ + 1, .nil => .nil
  | _, _, n + 1, .cons _ t => Reps.drop n t
theorem Reps.reverse {vs : List V} {ds : List D} (h : Reps K H vs ds) : Reps K H vs.reverse ds.reverse := by
  induction vs generalizing ds with
  | nil => cases h; exact .nil
  | cons v vs ih =>
    cases h with
    | cons a b =>
      rw [List.reverse_cons, List.reverse_cons]
      exact (ih b).append (.cons a .nil)
end
/-! the store -/
inductive Cl where
  | lst (ds : List D)
  | dK (kvs : List (Key × D))
  | dT (kvs : List (List Key × D))
  | ins (C dx : Addr) (fs : List (Str × D))
abbrev Sto := Addr → Option Cl
def put (G : Sto) (a : Addr) (c : Cl) : Sto := fun b => if b = a then some c else G b
theorem put_same {G : Sto} {a : Addr} {c : Cl} : put G a c a = some c := by unfold put; rw [if_pos rfl]
theorem put_ne {G : Sto} {a b : Addr} {c : Cl} (h : b ≠ a) : put G a c b = G b := by unfold put; rw [if_neg h]
def drop (G : Sto) (a : Addr) : Sto := fun b => if b = a then none else G b
theorem drop_put {G : Sto} {a : Addr} {c : Cl} (h : G a = none) : drop (put G a c) a = G := by
  funext b
  unfold drop put
  split
  · rename_i e; rw [e, h]
  · rfl
theorem drop_ne {G : Sto} {a b : Addr} (h : b ≠ a) : drop G a b = G b := by unfold drop; rw [if_neg h]
theorem drop_same {G : Sto} {a : Addr} : drop G a a = none := by unfold drop; rw [if_pos rfl]
theorem put_put {G : Sto} {a : Addr} {c c' : Cl} : put (put G a c) a c' = put G a c' := by
  funext b
  unfold put
  split <;> rfl
def RepKV {κ : Type} (K : PySem.W.Frag) (H : Hp) : List (κ × V) → List (κ × D) → Prop
  | [], [] => True
  | (k, v) :: r, (j, d) :: q => k = j ∧ Rep K H v d ∧ RepKV K H r q
  | _, _ => False
theorem RepKV.mono {κ : Type} {K : PySem.W.Frag} {H H' : Hp} (t : TupExt K H H') : ∀ {l : List (κ × V)} {m : List (κ × D)}, RepKV K H l m → RepKV K H' l m
  | [], [], h => h
  | (_, _) :: _, (_, _) :: _, ⟨a, b, c⟩ => ⟨a, b.mono t, RepKV.mono t c⟩
  | [], _ :: _, h => h.elim
  | _ :: _, [], h => h.elim
def CRep (K : PySem.W.Frag) (H : Hp) (a : Addr) : Cl → Prop
  | .lst ds => ∃ vs, H a = some (.lst vs) ∧ Reps K H vs ds
  | .dK kvs => ∃ m, H a = some (.dK m) ∧ RepKV K H m kvs
  | .dT kvs => ∃ m, H a = some (.dT m) ∧ RepKV K H m kvs
  | .ins C dx fs => ∃ m, H a = some (.ins C dx m) ∧ RepKV K H m fs
def Sim (K : PySem.W.Frag) (G : Sto) (H : Hp) : Prop := ∀ a c, G a = some c → CRep K H a c
structure Ext (K : PySem.W.Frag) (G : Sto) (H : Hp) (G' : Sto) (H' : Hp) : Prop where
  tup : TupExt K H H'
  frm : ∀ a o, H a = some o → G a = none → H' a = some o ∧ G' a = none
section
variable {K : PySem.W.Frag} {G G' G1 G2 : Sto} {H H' H1 H2 : Hp} {p a : Addr} {o : HO} {c : Cl}
theorem Ext.refl : Ext K G H G H := ⟨.refl, fun _ _ h g => ⟨h, g⟩⟩
theorem Ext.trans (x : Ext K G H G1 H1) (y : Ext K G1 H1 G2 H2) : Ext K G H G2 H2 :=
  ⟨x.tup.trans y.tup, fun a o h g => y.frm a o (x.frm a o h g).1 (x.frm a o h g).2⟩
theorem CRep.mono (t : TupExt K H H') (k : H' a = H a) : ∀ {c : Cl}, CRep K H a c → CRep K H' a c
  | .lst _, ⟨vs, h, r⟩ => ⟨vs, k.trans h, r.mono t⟩
  | .dK _, ⟨m, h, r⟩ => ⟨m, k.trans h, r.mono t⟩
  | .dT _, ⟨m, h, r⟩ => ⟨m, k.trans h, r.mono t⟩
  | .ins _ _ _, ⟨m, h, r⟩ => ⟨m, k.trans h, r.mono t⟩
theorem CRep.there : ∀ {c : Cl}, CRep K H a c → ∃ o, H a = some o
  | .lst _, ⟨_, h, _⟩ => ⟨_, h⟩
  | .dK _, ⟨_, h, _⟩ => ⟨_, h⟩
  | .dT _, ⟨_, h, _⟩ => ⟨_, h⟩
  | .ins _ _ _, ⟨_, h, _⟩ => ⟨_, h⟩
theorem Sim.free (s : Sim K G H) (h : H p = none) : G p = none := by
  cases e : G p with
  | none => rfl
  | some c =>
    obtain ⟨o, q⟩ := (s p c e).there
    rw [h] at q
    cases q
theorem tup_new (h : H p = none) : TupExt K H (upd H p o) := ⟨fun a xs q => by
  rcases q with (q | ⟨u, q⟩) | q
  · exact .inl (.inl (by rw [upd_ne (ne_of_none q h)]; exact q))
  · exact .inl (.inr ⟨u, by rw [upd_ne (ne_of_none q h)]; exact q⟩)
  · exact .inr q, fun a xs q => by
  rcases q with ⟨u, q⟩ | q
  · exact .inl ⟨u, by rw [upd_ne (ne_of_none q h)]; exact q⟩
  · exact .inr q, fun a o u q => by rw [upd_ne (ne_of_none q h)]; exact q⟩
def noTup : HO → Bool
  | .tup _ => false
  | .frz _ _ => false
  | _ => true
theorem tup_mut {o0 : HO} (h : H p = some o0) (n : noTup o0 = true) : TupExt K H (upd H p o) := by
  refine ⟨fun a xs q => ?_, fun a xs q => ?_, fun a ob u q => ?_⟩
  rcases q with (q | ⟨u, q⟩) | q
  · refine .inl (.inl ?_)
    have ne : a ≠ p := fun e => by
      subst e
      rw [h] at q
      cases q
      cases n
    rw [upd_ne ne]
    exact q
  · refine .inl (.inr ⟨u, ?_⟩)
    have ne : a ≠ p := fun e => by
      subst e
      rw [h] at q
      cases q
      cases n
    rw [upd_ne ne]
    exact q
  · exact .inr q
  rcases q with ⟨u, q⟩ | q
  · refine .inl ⟨u, ?_⟩
    have ne : a ≠ p := fun e => by
      subst e
      rw [h] at q
      cases q
      cases n
    rw [upd_ne ne]
    exact q
  · exact .inr q
  have ne : a ≠ p := fun e => by
    subst e
    rw [h] at q
    cases q
    cases n
  rw [upd_ne ne]
  exact q
/-- a new object that the store bears -/
theorem Sim.new (s : Sim K G H) (h : H p = none) (n : CRep K (upd H p o) p c) : Sim K (put G p c) (upd H p o) := fun a c' q => by
  by_cases e : a = p
  · subst e
    rw [put_same] at q
    cases q
    exact n
  · rw [put_ne e] at q
    exact (s a c' q).mono (tup_new h) (upd_ne e)
theorem Ext.new (h : H p = none) : Ext K G H (put G p c) (upd H p o) := ⟨tup_new h, fun a o q g => by
  have ne := ne_of_none q h
  rw [upd_ne ne, put_ne ne]
  exact ⟨q, g⟩⟩
/-- a new object that the store does not bear (a tuple) -/
theorem Sim.newT (s : Sim K G H) (h : H p = none) : Sim K G (upd H p o) := fun a c' q => by
  have ne : a ≠ p := fun e => by
    subst e
    rw [s.free h] at q
    cases q
  exact (s a c' q).mono (tup_new h) (upd_ne ne)
theorem Ext.newT (h : H p = none) : Ext K G H G (upd H p o) := ⟨tup_new h, fun a o q g => by
  have ne := ne_of_none q h
  rw [upd_ne ne]
  exact ⟨q, g⟩⟩
/-- an object of the store is changed -/
theorem Sim.mut {o0 : HO} {c0 : Cl} (s : Sim K G H) (h : H p = some o0) (n : noTup o0 = true) (hc : CRep K (upd H p o) p c) : Sim K (put G p c) (upd H p o) := fun a c' q => by
  by_cases e : a = p
  · subst e
    rw [put_same] at q
    cases q
    exact hc
  · rw [put_ne e] at q
    exact (s a c' q).mono (tup_mut h n) (upd_ne e)
theorem Ext.mut {o0 : HO} {c0 : Cl} (g : G p = some c0) (h : H p = some o0) (n : noTup o0 = true) : Ext K G H (put G p c) (upd H p o) := ⟨tup_mut h n, fun a o q z => by
  have ne : a ≠ p := fun e => by
    subst e
    rw [g] at z
    cases z
  rw [upd_ne ne, put_ne ne]
  exact ⟨q, z⟩⟩
/-- an object of the store is locked, and let go -/
theorem Sim.lock {o0 : HO} {ob : Obj} (s : Sim K G H) (h : H p = some o0) (n : noTup o0 = true) : Sim K (drop G p) (upd H p (.frz ob o0)) := fun a c' q => by
  by_cases e : a = p
  · subst e
    rw [drop_same] at q
    cases q
  · rw [drop_ne e] at q
    exact (s a c' q).mono (tup_mut h n) (upd_ne e)
theorem Ext.lock {o0 : HO} {ob : Obj} {c0 : Cl} (g : G p = some c0) (h : H p = some o0) (n : noTup o0 = true) : Ext K G H (drop G p) (upd H p (.frz ob o0)) := ⟨tup_mut h n, fun a o q z => by
  have ne : a ≠ p := fun e => by
    subst e
    rw [g] at z
    cases z
  rw [upd_ne ne, drop_ne ne]
  exact ⟨q, z⟩⟩
/-- fewer cells -/
def Dn (G G' : Sto) : Prop := ∀ a c, G' a = some c → G a = some c
theorem Dn.refl : Dn G G := fun _ _ h => h
theorem Dn.trans (a : Dn G G1) (b : Dn G1 G2) : Dn G G2 := fun x c h => a x c (b x c h)
theorem Dn.sim (d : Dn G G') (s : Sim K G H) : Sim K G' H := fun a c h => s a c (d a c h)
theorem Dn.non (d : Dn G G') (h : G p = none) : G' p = none := by
  cases e : G' p with
  | none => rfl
  | some c => rw [d p c e] at h; cases h
theorem Dn.ext (d : Dn G G') : Ext K G H G' H := ⟨.refl, fun a o h g => ⟨h, d.non g⟩⟩
theorem Dn.new {c : Cl} (h : G p = none) : Dn (put G p c) G := fun a c' e => by
  have n : a ≠ p := fun z => by
    subst z
    rw [h] at e
    cases e
  rw [put_ne n]
  exact e
theorem Dn.dropped : Dn G (drop G p) := fun a c e => by
  by_cases n : a = p
  · subst n; rw [drop_same] at e; cases e
  · rw [drop_ne n] at e; exact e
end
/-! slots -/
abbrev Ev := List (Option D)
structure RepS (K : PySem.W.Frag) (H : Hp) (σ : L2.St) (ρ : Ev) : Prop where
  len : σ.length = ρ.length
  at_ : ∀ (i : Nat) (d : D), ρ[i]? = some (some d) → ∃ v, σ[i]? = some (some v) ∧ Rep K H v d
theorem RepS.mono {K : PySem.W.Frag} {H H' : Hp} {σ : L2.St} {ρ : Ev} (r : RepS K H σ ρ) (t : TupExt K H H') : RepS K H' σ ρ :=
  ⟨r.len, fun i d e => let ⟨v, h1, h2⟩ := r.at_ i d e; ⟨v, h1, h2.mono t⟩⟩
theorem RepS.set {K : PySem.W.Frag} {H : Hp} {σ : L2.St} {ρ : Ev} {v : V} {d : D} (r : RepS K H σ ρ) (i : Nat) (h : Rep K H v d) : RepS K H (σ.set i (some v)) (ρ.set i (some d)) := by
  refine ⟨by rw [List.length_set, List.length_set, r.len], fun j e q => ?_⟩
  by_cases hj : i = j
  · subst hj
    have hl : i < ρ.length := by
      rw [List.getElem?_set] at q
      split at q
      · split at q
        · assumption
        · cases q
      · contradiction
    rw [List.getElem?_set_self hl] at q
    cases q
    exact ⟨v, List.getElem?_set_self (by rw [r.len]; exact hl), h⟩
  · rw [List.getElem?_set_ne hj] at q
    obtain ⟨u, h1, h2⟩ := r.at_ j e q
    exact ⟨u, by rw [List.getElem?_set_ne hj]; exact h1, h2⟩
theorem RepS.forget {K : PySem.W.Frag} {H : Hp} {σ : L2.St} {ρ : Ev} (r : RepS K H σ ρ) (i : Nat) : RepS K H (σ.set i none) (ρ.set i none) := by
  refine ⟨by rw [List.length_set, List.length_set, r.len], fun j e q => ?_⟩
  by_cases hj : i = j
  · subst hj
    rw [List.getElem?_set] at q
    simp at q
  · rw [List.getElem?_set_ne hj] at q
    obtain ⟨u, h1, h2⟩ := r.at_ j e q
    exact ⟨u, by rw [List.getElem?_set_ne hj]; exact h1, h2⟩
def wipeD (ρ : Ev) : List Nat → Ev
  | [] => ρ
  | v :: vs => (wipeD ρ vs).set v none
theorem RepS.wipe {K : PySem.W.Frag} {H : Hp} {σ : L2.St} {ρ : Ev} (r : RepS K H σ ρ) : ∀ vs : List Nat, RepS K H (L2.wipe σ vs) (wipeD ρ vs)
  | [] => r
  | v :: vs => (RepS.wipe r vs).forget v
end DL

namespace DL
open PySem PySem.Spec PyProof.Rows L2
structure Exn where
  cls : Value
  fs : List (Str × D)
abbrev DQ := D → Sto → Prop
abbrev BQ := Bool → Sto → Prop
abbrev AQ := List D → Sto → Prop
abbrev XQ := Exn → Sto → Prop
abbrev DE := Ev → Sto → DQ → XQ → Prop
abbrev DT := Ev → Sto → BQ → XQ → Prop
abbrev DA := Ev → Sto → AQ → XQ → Prop
def ExnRep (K : PySem.W.Frag) (H : Hp) (cls : Value) (d : Option Addr) (x : Exn) : Prop :=
  cls = x.cls ∧ match d with
    | none => x.fs = []
    | some a => ∃ m, H a = some (.xd m) ∧ RepKV K H m x.fs
/-! the greatest readings -/
def WE (X : Cx) (e : Expr) : TE := fun σ H Q => ∀ pins s, Inv X pins σ H s → wpAny (model X.prog X.w) X.A (eval e X.env) (EP X pins σ Q) X.xe s
def WT (X : Cx) (e : Expr) : TT := fun σ H Q => ∀ pins s, Inv X pins σ H s → wpAny (model X.prog X.w) X.A (isTrue e X.env (eval e X.env)) (TP X pins σ Q) X.xe s
def WW (X : Cx) (e : Expr) : TT := fun σ H Q => ∀ (whole : Sem Value) pins s, Inv X pins σ H s → wpAny (model X.prog X.w) X.A (isTrue e X.env whole) (TP X pins σ Q) X.xe s
def WA (X : Cx) (es : List Expr) : TA := fun σ H Q => ∀ (pos : Pos) pins s, Inv X pins σ H s → wpAny (model X.prog X.w) X.A (spliced (backTo pos (starEach es X.env))) (AP X pins σ Q) X.xe s
section
variable {X : Cx} {e : Expr} {es : List Expr} {σ : L2.St} {H : Hp}
theorem pe_max : PE X e (WE X e) := ⟨fun pins s σ H Q I h => h pins s I⟩
theorem pt_max : PT X e (WT X e) := ⟨fun pins s σ H Q I h => h pins s I⟩
theorem pw_max : PW X e (WW X e) := ⟨fun whole pins s σ H Q I h => h whole pins s I⟩
theorem pa_max : PA X es (WA X es) := ⟨fun pos pins s σ H Q I h => h pos pins s I⟩
theorem PE.we {t : TE} {Q : VK} (h : PE X e t) (q : t σ H Q) : WE X e σ H Q := fun pins s I => h.run pins s σ H Q I q
theorem PT.wt {t : TT} {Q : Bool → Hp → Prop} (h : PT X e t) (q : t σ H Q) : WT X e σ H Q := fun pins s I => h.run pins s σ H Q I q
theorem PW.ww {t : TT} {Q : Bool → Hp → Prop} (h : PW X e t) (q : t σ H Q) : WW X e σ H Q := fun whole pins s I => h.run whole pins s σ H Q I q
theorem PA.wa {t : TA} {Q : List V → Hp → Prop} (h : PA X es t) (q : t σ H Q) : WA X es σ H Q := fun pos pins s I => h.run pos pins s σ H Q I q
theorem WE.imp {Q Q' : VK} (h : WE X e σ H Q) (i : ∀ v H', Q v H' → Q' v H') : WE X e σ H Q' := fun pins s I => thn (h pins s I) fun _ _ ⟨v, H', I', r, q⟩ => ⟨v, H', I', r, i _ _ q⟩
theorem WT.imp {Q Q' : Bool → Hp → Prop} (h : WT X e σ H Q) (i : ∀ v H', Q v H' → Q' v H') : WT X e σ H Q' := fun pins s I => thn (h pins s I) fun _ _ ⟨H', I', q⟩ => ⟨H', I', i _ _ q⟩
theorem WW.imp {Q Q' : Bool → Hp → Prop} (h : WW X e σ H Q) (i : ∀ v H', Q v H' → Q' v H') : WW X e σ H Q' := fun whole pins s I => thn (h whole pins s I) fun _ _ ⟨H', I', q⟩ => ⟨H', I', i _ _ q⟩
theorem WA.imp {Q Q' : List V → Hp → Prop} (h : WA X es σ H Q) (i : ∀ v H', Q v H' → Q' v H') : WA X es σ H Q' := fun pos pins s I => thn (h pos pins s I) fun _ _ ⟨vs, H', I', r, q⟩ => ⟨vs, H', I', r, i _ _ q⟩
theorem WW.wt {Q : Bool → Hp → Prop} (h : WW X e σ H Q) : WT X e σ H Q := fun pins s I => h _ pins s I
end
/-! an exception that the context takes -/
def XW (X : Cx) (cls : Value) (d : Option Addr) (σ : L2.St) (H : Hp) : Prop := ∀ u s', XE X (fun c e σ' H' => c = cls ∧ e = d ∧ σ' = σ ∧ H' = H) u s' → X.xe u s'
theorem takes_max {X : Cx} : Takes X (XW X) := fun u s' ⟨a, B, sI, pins, σ, H, cls, d, e, I, nb, up, sky, na, os, ag, w⟩ =>
  w u s' ⟨a, B, sI, pins, σ, H, cls, d, e, I, nb, up, sky, na, os, ag, rfl, rfl, rfl, rfl⟩
def Tk (X : Cx) (σ : L2.St) (G : Sto) (H : Hp) (xq : XQ) : Prop :=
  ∀ x cls d G' H', ExnRep X.K H' cls d x → Sim X.K G' H' → Ext X.K G H G' H' → xq x G' → XW X cls d σ H'
theorem Tk.step {X : Cx} {σ : L2.St} {G G1 : Sto} {H H1 : Hp} {xq : XQ} (t : Tk X σ G H xq) (e : Ext X.K G H G1 H1) : Tk X σ G1 H1 xq :=
  fun x cls d G' H' r s y q => t x cls d G' H' r s (e.trans y) q
theorem Tk.never {X : Cx} {σ : L2.St} {G : Sto} {H : Hp} : Tk X σ G H (fun _ _ => False) := fun _ _ _ _ _ _ _ _ q => q.elim
/-! lifted ends -/
def Lift (K : PySem.W.Frag) (G : Sto) (H : Hp) (Q : DQ) : VK := fun v H' => ∃ d G', Rep K H' v d ∧ Sim K G' H' ∧ Ext K G H G' H' ∧ Q d G'
def LiftB (K : PySem.W.Frag) (G : Sto) (H : Hp) (Q : BQ) : Bool → Hp → Prop := fun b H' => ∃ G', Sim K G' H' ∧ Ext K G H G' H' ∧ Q b G'
def LiftA (K : PySem.W.Frag) (G : Sto) (H : Hp) (Q : AQ) : List V → Hp → Prop := fun vs H' => ∃ ds G', Reps K H' vs ds ∧ Sim K G' H' ∧ Ext K G H G' H' ∧ Q ds G'
theorem Lift.back {K : PySem.W.Frag} {G G1 : Sto} {H H1 : Hp} {Q : DQ} (x : Ext K G H G1 H1) : ∀ v H', Lift K G1 H1 Q v H' → Lift K G H Q v H' :=
  fun _ _ ⟨d, G', r, s, e, q⟩ => ⟨d, G', r, s, x.trans e, q⟩
theorem LiftB.back {K : PySem.W.Frag} {G G1 : Sto} {H H1 : Hp} {Q : BQ} (x : Ext K G H G1 H1) : ∀ v H', LiftB K G1 H1 Q v H' → LiftB K G H Q v H' :=
  fun _ _ ⟨G', s, e, q⟩ => ⟨G', s, x.trans e, q⟩
theorem LiftA.back {K : PySem.W.Frag} {G G1 : Sto} {H H1 : Hp} {Q : AQ} (x : Ext K G H G1 H1) : ∀ v H', LiftA K G1 H1 Q v H' → LiftA K G H Q v H' :=
  fun _ _ ⟨d, G', r, s, e, q⟩ => ⟨d, G', r, s, x.trans e, q⟩
theorem Lift.here {K : PySem.W.Frag} {G : Sto} {H : Hp} {Q : DQ} {v : V} {d : D} (r : Rep K H v d) (s : Sim K G H) (q : Q d G) : Lift K G H Q v H := ⟨d, G, r, s, .refl, q⟩
/-! the judgements -/
structure QE (X : Cx) (e : Expr) (t : DE) : Prop where
  run : ∀ ρ G Q xq σ H, t ρ G Q xq → RepS X.K H σ ρ → Sim X.K G H → Tk X σ G H xq → WE X e σ H (Lift X.K G H Q)
structure QT (X : Cx) (e : Expr) (t : DT) : Prop where
  run : ∀ ρ G Q xq σ H, t ρ G Q xq → RepS X.K H σ ρ → Sim X.K G H → Tk X σ G H xq → WT X e σ H (LiftB X.K G H Q)
structure QW (X : Cx) (e : Expr) (t : DT) : Prop where
  run : ∀ ρ G Q xq σ H, t ρ G Q xq → RepS X.K H σ ρ → Sim X.K G H → Tk X σ G H xq → WW X e σ H (LiftB X.K G H Q)
structure QA (X : Cx) (es : List Expr) (t : DA) : Prop where
  run : ∀ ρ G Q xq σ H, t ρ G Q xq → RepS X.K H σ ρ → Sim X.K G H → Tk X σ G H xq → WA X es σ H (LiftA X.K G H Q)
theorem QW.qt {X : Cx} {e : Expr} {t : DT} (h : QW X e t) : QT X e t := ⟨fun ρ G Q xq σ H a b c d => (h.run ρ G Q xq σ H a b c d).wt⟩
section
variable {X : Cx} {a b c e : Expr} {es : List Expr} {pos : Pos} {ta tb tc te : DE}
/-! names, constants -/
def dVar (i : Nat) : DE := fun ρ G Q _ => match ρ[i]? with
  | some (some d) => Q d G
  | _ => False
theorem qe_var {i : Nat} {x : Str} (hN : X.N[i]? = some x) (hv : Vis X.env.scope x) (hd : (x == ("__debug__" : Str)) = false) (hcd : (x == ("__classdict__" : Str)) = false) : QE X (.Name x pos) (dVar i) := by
  refine ⟨fun ρ G Q xq σ H h r s tk => ?_⟩
  unfold dVar at h
  split at h
  · rename_i d e
    obtain ⟨v, h1, h2⟩ := r.at_ i d e
    exact PE.we (pe_var hN hv hd hcd) ⟨v, h1, Lift.here h2 s h⟩
  · exact h.elim
def dC (d : D) : DE := fun _ G Q _ => Q d G
theorem qe_int {i : Int} {j : Nat} : QE X (.Constant (.int i) j pos) (dC (.int i)) := ⟨fun _ _ _ _ _ _ h _ s _ => PE.we pe_int (Lift.here (.int i) s h)⟩
theorem qe_bl {i : Bool} {j : Nat} : QE X (.Constant (.bool i) j pos) (dC (.bl i)) := ⟨fun _ _ _ _ _ _ h _ s _ => PE.we pe_bl (Lift.here (.bl i) s h)⟩
theorem qe_non {j : Nat} : QE X (.Constant .none j pos) (dC .non) := ⟨fun _ _ _ _ _ _ h _ s _ => PE.we pe_non (Lift.here .non s h)⟩
theorem qe_str {i : Str} {j : Nat} : QE X (.Constant (.str i) j pos) (dC (.str i)) := ⟨fun _ _ _ _ _ _ h _ s _ => PE.we pe_str (Lift.here (.str i) s h)⟩
/-- a constant of the module -/
def Glb (X : Cx) (x : Str) (d : D) : Prop := ∃ v u, X.mg x = some u ∧ RelV v u ∧ ∀ H, Rep X.K H v d
theorem qe_glb {x : Str} {d : D} (hg : Gl X x) (g : Glb X x d) (hd : (x == ("__debug__" : Str)) = false) : QE X (.Name x pos) (dC d) := by
  obtain ⟨v, u, h1, h2, h3⟩ := g
  exact ⟨fun _ _ _ _ _ H h _ s _ => PE.we (pe_glob hg h1 h2 hd) (Lift.here (h3 H) s h)⟩
/-- a built-in type by its name -/
theorem qe_ty {x : Str} {n : String} (hg : Gl X x) (hm : X.mg x = none) (hv : bootBuiltins x = some (.type n)) (hn : x ≠ "__name__") (hd : (x == ("__debug__" : Str)) = false) : QE X (.Name x pos) (dC (.ty n)) :=
  ⟨fun _ _ _ _ _ H h _ s _ => PE.we (pe_bltn (v := .ty n) hg hm hv rfl hn hd) (Lift.here (.ty n) s h)⟩
/-! two in a row -/
abbrev DR2 := D → D → Sto → DQ → Prop
def dOp (r : DR2) (ta tb : DE) : DE := fun ρ G Q xq => ta ρ G (fun x G1 => tb ρ G1 (fun y G2 => r x y G2 Q) xq) xq
/-- an operation by values at the level of data -/
def WO (X : Cx) (f : Value → Value → Sem Value) (v u : V) (σ : L2.St) (H : Hp) (R : VK) : Prop :=
  ∀ pins s v' u', Inv X pins σ H s → RelV v v' → RelV u u' → wpAny (model X.prog X.w) X.A (f v' u') (EP X pins σ R) X.xe s
def OpD (X : Cx) (f : Value → Value → Sem Value) (r : DR2) : Prop :=
  ∀ x y G Q v u σ H, r x y G Q → Rep X.K H v x → Rep X.K H u y → Sim X.K G H → WO X f v u σ H (Lift X.K G H Q)
theorem op_max {f : Value → Value → Sem Value} : OpR X f (fun v u H R => ∀ σ, WO X f v u σ H R) := fun pins s σ H x y v u Q I rx ry h => h σ pins s v u I rx ry
theorem OpR.wo {f : Value → Value → Sem Value} {r : R2} {v u : V} {σ : L2.St} {H : Hp} {R : VK} (h : OpR X f r) (q : r v u H R) : WO X f v u σ H R := fun pins s v' u' I rx ry => h pins s σ H v u v' u' R I rx ry q
theorem WO.imp {f : Value → Value → Sem Value} {v u : V} {σ : L2.St} {H : Hp} {R R' : VK} (h : WO X f v u σ H R) (i : ∀ v H', R v H' → R' v H') : WO X f v u σ H R' :=
  fun pins s v' u' I rx ry => thn (h pins s v' u' I rx ry) fun _ _ ⟨v, H', I', r, q⟩ => ⟨v, H', I', r, i _ _ q⟩
/-- two readings in a row, then what the values ask -/
theorem two_ {ta tb : DE} (ha : QE X a ta) (hb : QE X b tb) {ρ : Ev} {G : Sto} {xq : XQ} {σ : L2.St} {H : Hp} {K2 : D → D → Sto → Prop} {R : V → V → Hp → Prop}
    (h : ta ρ G (fun x G1 => tb ρ G1 (fun y G2 => K2 x y G2) xq) xq) (r : RepS X.K H σ ρ) (s : Sim X.K G H) (tk : Tk X σ G H xq)
    (hk : ∀ x y v u G2 H2, K2 x y G2 → Rep X.K H2 v x → Rep X.K H2 u y → Sim X.K G2 H2 → Ext X.K G H G2 H2 → R v u H2) :
    WE X a σ H fun v H1 => WE X b σ H1 fun u H2 => R v u H2 :=
  (ha.run ρ G _ xq σ H h r s tk).imp fun v H1 ⟨x, G1, rx, s1, e1, q1⟩ =>
    (hb.run ρ G1 _ xq σ H1 q1 (r.mono e1.tup) s1 (tk.step e1)).imp fun u H2 ⟨y, G2, ry, s2, e2, q2⟩ =>
      hk x y v u G2 H2 q2 (rx.mono e2.tup) ry s2 (e1.trans e2)
theorem OpD.op {op : Operator} {r : DR2} (ho : OpD X (binaryOp op) r) (ha : QE X a ta) (hb : QE X b tb) : QE X (.BinOp a op b pos) (dOp r ta tb) := by
  refine ⟨fun ρ G Q xq σ H h rs s tk => ?_⟩
  refine PE.we (pe_op (r := fun v u H2 R => ∀ σ, WO X (binaryOp op) v u σ H2 R) op_max pe_max pe_max) ?_
  exact two_ ha hb h rs s tk fun x y v u G2 H2 q rx ry s2 e2 σ' => (ho x y G2 Q v u σ' H2 q rx ry s2).imp (Lift.back e2)
theorem OpD.cmp {op : CmpOp} {r : DR2} (ho : OpD X (compareOp op) r) (ha : QE X a ta) (hb : QE X b tb) (hm : behindInMarks op b = false) : QE X (.Compare a [op] [b] pos) (dOp r ta tb) := by
  refine ⟨fun ρ G Q xq σ H h rs s tk => ?_⟩
  refine PE.we (pe_cmpR (r := fun v u H2 R => ∀ σ, WO X (compareOp op) v u σ H2 R) op_max pe_max pe_max hm) ?_
  exact two_ ha hb h rs s tk fun x y v u G2 H2 q rx ry s2 e2 σ' => (ho x y G2 Q v u σ' H2 q rx ry s2).imp (Lift.back e2)
/-- what is asked of a truth -/
def asB (Q : BQ) : DQ := fun d G => match d with
  | .bl k => Q k G
  | _ => False
theorem asB_of {K : PySem.W.Frag} {Q : BQ} {d : D} {G : Sto} {v : V} {H : Hp} (h : asB Q d G) (r : Rep K H v d) : ∃ k, v = .bl k ∧ Q k G := by
  cases d with
  | bl k =>
    cases r
    exact ⟨k, rfl, h⟩
  | _ => exact False.elim h
def dTest (t : DE) : DT := fun ρ G Q xq => t ρ G (asB Q) xq
theorem OpD.cmpT {op : CmpOp} {r : DR2} (ho : OpD X (compareOp op) r) (ha : QE X a ta) (hb : QE X b tb) (hm : behindInMarks op b = false) : QT X (.Compare a [op] [b] pos) (dTest (dOp r ta tb)) := by
  refine ⟨fun ρ G Q xq σ H h rs s tk => ?_⟩
  refine PT.wt (pt_cmpR (r := fun v u H2 R => ∀ σ, WO X (compareOp op) v u σ H2 R) op_max pe_max pe_max hm) ?_
  refine two_ ha hb h rs s tk fun x y v u G2 H2 q rx ry s2 e2 σ' => (ho x y G2 _ v u σ' H2 q rx ry s2).imp fun w H3 ⟨d, G3, r3, s3, e3, q3⟩ => ?_
  obtain ⟨k, rfl, q4⟩ := asB_of q3 r3
  exact ⟨k, rfl, G3, s3, e2.trans e3, q4⟩
/-- a chain of two -/
def dChn (r r' : DR2) (ta tb tc : DE) : DE := fun ρ G Q xq => ta ρ G (fun x G1 => tb ρ G1 (fun y G2 => r x y G2 (asB fun k G3 => if k = true then tc ρ G3 (fun z G4 => r' y z G4 Q) xq else Q (.bl false) G3)) xq) xq
theorem chn_ {op op' : CmpOp} {r r' : DR2} (ho : OpD X (compareOp op) r) (ho' : OpD X (compareOp op') r') (ha : QE X a ta) (hb : QE X b tb) (hc : QE X c tc) {ρ : Ev} {G : Sto} {xq : XQ} {σ : L2.St} {H : Hp} {Q : DQ} {R : VK}
    (h : dChn r r' ta tb tc ρ G Q xq) (rs : RepS X.K H σ ρ) (s : Sim X.K G H) (tk : Tk X σ G H xq) (hR : ∀ v H', Lift X.K G H Q v H' → R v H') :
    tChain (fun v u H2 R => WO X (compareOp op) v u σ H2 R) (fun v u H2 R => WO X (compareOp op') v u σ H2 R) (WE X a) (WE X b) (WE X c) σ H R := by
  refine two_ ha hb h rs s tk fun x y v u G2 H2 q rx ry s2 e2 => (ho x y G2 _ v u σ H2 q rx ry s2).imp fun w H3 ⟨d, G3, r3, s3, e3, q3⟩ => ?_
  obtain ⟨k, rfl, q4⟩ := asB_of q3 r3
  refine ⟨k, rfl, ?_⟩
  have e23 := e2.trans e3
  cases k with
  | true =>
    simp only [if_true] at q4 ⊢
    refine (hc.run ρ G3 _ xq σ H3 q4 (rs.mono e23.tup) s3 (tk.step e23)).imp fun w H4 ⟨z, G4, r4, s4, e4, q5⟩ => ?_
    exact (ho' y z G4 Q u w σ H4 q5 ((ry.mono e3.tup).mono e4.tup) r4 s4).imp fun v' H' l => hR _ _ (Lift.back (e23.trans e4) _ _ l)
  | false =>
    simp only [Bool.false_eq_true, if_false] at q4 ⊢
    exact hR _ _ ⟨.bl false, G3, .bl false, s3, e23, q4⟩
theorem op_at {f : Value → Value → Sem Value} {σ0 : L2.St} : OpR X f (fun v u H R => ∀ σ, WO X f v u σ H R) := op_max
theorem tChain_at {r r' : L2.St → R2} {ta tb tc : TE} {σ : L2.St} {H : Hp} {R : VK} (h : tChain (r σ) (r' σ) ta tb tc σ H R) : tChain (r σ) (r' σ) ta tb tc σ H R := h
theorem qe_chn {op op' : CmpOp} {r r' : DR2} (ho : OpD X (compareOp op) r) (ho' : OpD X (compareOp op') r') (ha : QE X a ta) (hb : QE X b tb) (hc : QE X c tc) (hm : lastMarks [op, op'] [b, c] = false) :
    QE X (.Compare a [op, op'] [b, c] pos) (dChn r r' ta tb tc) := by
  refine ⟨fun ρ G Q xq σ H h rs s tk => ?_⟩
  intro pins s1 I
  have ho1 : OpR (X := X) (compareOp op) (fun v u H2 R => ∀ σ, WO X (compareOp op) v u σ H2 R) := op_max
  have ho2 : OpR (X := X) (compareOp op') (fun v u H2 R => ∀ σ, WO X (compareOp op') v u σ H2 R) := op_max
  refine (pe_chain (pos := pos) ho1 ho2 (pe_max (e := a)) (pe_max (e := b)) (pe_max (e := c)) hm).run pins s1 σ H _ I ?_
  refine two_ ha hb h rs s tk fun x y v u G2 H2 q rx ry s2 e2 => fun σ' => (ho x y G2 _ v u σ' H2 q rx ry s2).imp fun w H3 ⟨d, G3, r3, s3, e3, q3⟩ => ?_
  obtain ⟨k, rfl, q4⟩ := asB_of q3 r3
  refine ⟨k, rfl, ?_⟩
  have e23 := e2.trans e3
  cases k with
  | true =>
    simp only [if_true] at q4 ⊢
    refine (hc.run ρ G3 _ xq σ H3 q4 (rs.mono e23.tup) s3 (tk.step e23)).imp fun w H4 ⟨z, G4, r4, s4, e4, q5⟩ => fun σ'' => ?_
    exact (ho' y z G4 Q u w σ'' H4 q5 ((ry.mono e3.tup).mono e4.tup) r4 s4).imp fun v' H' l => Lift.back (e23.trans e4) _ _ l
  | false =>
    simp only [Bool.false_eq_true, if_false] at q4 ⊢
    exact ⟨.bl false, G3, .bl false, s3, e23, q4⟩
theorem qt_chn {op op' : CmpOp} {r r' : DR2} (ho : OpD X (compareOp op) r) (ho' : OpD X (compareOp op') r') (ha : QE X a ta) (hb : QE X b tb) (hc : QE X c tc) (hm : lastMarks [op, op'] [b, c] = false) :
    QT X (.Compare a [op, op'] [b, c] pos) (dTest (dChn r r' ta tb tc)) := by
  refine ⟨fun ρ G Q xq σ H h rs s tk => ?_⟩
  intro pins s1 I
  have ho1 : OpR (X := X) (compareOp op) (fun v u H2 R => ∀ σ, WO X (compareOp op) v u σ H2 R) := op_max
  have ho2 : OpR (X := X) (compareOp op') (fun v u H2 R => ∀ σ, WO X (compareOp op') v u σ H2 R) := op_max
  refine (pt_chain (pos := pos) ho1 ho2 (pe_max (e := a)) (pe_max (e := b)) (pe_max (e := c)) hm).run pins s1 σ H _ I ?_
  refine two_ ha hb h rs s tk fun x y v u G2 H2 q rx ry s2 e2 => fun σ' => (ho x y G2 _ v u σ' H2 q rx ry s2).imp fun w H3 ⟨d, G3, r3, s3, e3, q3⟩ => ?_
  obtain ⟨k, rfl, q4⟩ := asB_of q3 r3
  refine ⟨k, rfl, ?_⟩
  have e23 := e2.trans e3
  cases k with
  | true =>
    simp only [if_true] at q4 ⊢
    refine (hc.run ρ G3 _ xq σ H3 q4 (rs.mono e23.tup) s3 (tk.step e23)).imp fun w H4 ⟨z, G4, r4, s4, e4, q5⟩ => fun σ'' => ?_
    refine (ho' y z G4 _ u w σ'' H4 q5 ((ry.mono e3.tup).mono e4.tup) r4 s4).imp fun v' H' ⟨d5, G5, r5, s5, e5, q6⟩ => ?_
    obtain ⟨k, rfl, q7⟩ := asB_of q6 r5
    exact ⟨k, rfl, G5, s5, (e23.trans e4).trans e5, q7⟩
  | false =>
    simp only [Bool.false_eq_true, if_false] at q4 ⊢
    exact ⟨false, rfl, G3, s3, e23, q4⟩
/-! one -/
abbrev DR1 := D → Sto → DQ → Prop
def dUn (r : DR1) (ta : DE) : DE := fun ρ G Q xq => ta ρ G (fun x G1 => r x G1 Q) xq
def negD : DR1 := fun x G Q => match x with
  | .int i => Q (.int (-i)) G
  | _ => False
theorem qe_neg (ha : QE X a ta) : QE X (.UnaryOp .USub a pos) (dUn negD ta) := by
  refine ⟨fun ρ G Q xq σ H h rs s tk => ?_⟩
  refine PE.we (pe_un un_neg pe_max) ((ha.run ρ G _ xq σ H h rs s tk).imp fun v H1 ⟨x, G1, rx, s1, e1, q1⟩ => ?_)
  cases x with
  | int i =>
    cases rx
    exact ⟨i, rfl, .int (-i), G1, .int _, s1, e1, q1⟩
  | _ => exact False.elim q1
/-! truth -/
def truD (d : D) (G : Sto) (Q : BQ) : Prop := match d with
  | .non => Q false G
  | .bl b => Q b G
  | .int i => Q (i != 0) G
  | .str y => y.length ≤ sizeLine ∧ Q ((y.length : Int) != 0) G
  | .tup ds => Q (!ds.isEmpty) G
  | .ref a => ∃ ds, G a = some (.lst ds) ∧ Q (!ds.isEmpty) G
  | .ty _ => False
  | .rl ds => Q (!ds.isEmpty) G
  | .sc _ => False
  | .rd _ _ => False
theorem Reps.emp {K : PySem.W.Frag} {H : Hp} {vs : List V} {ds : List D} (h : Reps K H vs ds) : vs.isEmpty = ds.isEmpty := by cases h <;> rfl
theorem tru_ {K : PySem.W.Frag} {d : D} {G : Sto} {Q : BQ} {v : V} {H : Hp} (h : truD d G Q) (r : Rep K H v d) (s : Sim K G H) : ∃ k, TruV K v H k ∧ Q k G := by
  cases d with
  | non => cases r; exact ⟨false, rfl, h⟩
  | bl b => cases r; exact ⟨b, rfl, h⟩
  | int i => cases r; exact ⟨_, rfl, h⟩
  | str y => cases r; exact ⟨_, ⟨h.1, rfl⟩, h.2⟩
  | tup ds =>
    cases r with
    | tup hs rs => exact ⟨_, .inr (.inl ⟨_, hs, rfl⟩), by rw [rs.emp]; exact h⟩
  | ref a =>
    cases r
    obtain ⟨ds, hg, q⟩ := h
    obtain ⟨vs, h1, h2⟩ := s a _ hg
    exact ⟨_, .inl ⟨vs, .of h1, rfl⟩, by rw [h2.emp]; exact q⟩
  | ty n => exact False.elim h
  | rl n =>
    cases r with
    | rl hs rs => exact ⟨_, .inl ⟨_, frz_sq hs, rfl⟩, by rw [rs.emp]; exact h⟩
  | sc n => exact False.elim h
  | rd n m => exact False.elim h
def dTru (t : DE) : DT := fun ρ G Q xq => t ρ G (fun d G1 => truD d G1 Q) xq
theorem qt_val (ha : QE X a ta) (he : ∀ whole, isTrue a X.env whole = (do let v ← whole; standAt a.pos; holding [v] (truthy v))) : QT X a (dTru ta) := by
  refine ⟨fun ρ G Q xq σ H h rs s tk => ?_⟩
  refine PT.wt (pt_truth pe_max he) ((ha.run ρ G _ xq σ H h rs s tk).imp fun v H1 ⟨x, G1, rx, s1, e1, q1⟩ => ?_)
  obtain ⟨k, h1, h2⟩ := tru_ q1 rx s1
  exact ⟨k, h1, G1, s1, e1, h2⟩
variable {tA tB' : DT} {rest : List Expr}
def dNotT (t : DT) : DT := fun ρ G Q xq => t ρ G (fun k G1 => Q (!k) G1) xq
theorem qt_not (ha : QT X a tA) : QT X (.UnaryOp .Not a pos) (dNotT tA) := by
  refine ⟨fun ρ G Q xq σ H h rs s tk => ?_⟩
  exact PT.wt (pt_not pt_max) ((ha.run ρ G _ xq σ H h rs s tk).imp fun k H1 ⟨G1, s1, e1, q1⟩ => ⟨G1, s1, e1, q1⟩)
def dAndT (t u : DT) : DT := fun ρ G Q xq => t ρ G (fun k G1 => if k = true then u ρ G1 Q xq else Q false G1) xq
def dOrT (t u : DT) : DT := fun ρ G Q xq => t ρ G (fun k G1 => if k = true then Q true G1 else u ρ G1 Q xq) xq
theorem qw_and1 (ha : QT X a tA) : QW X (.BoolOp .And [a] pos) tA := ⟨fun ρ G Q xq σ H h rs s tk => PW.ww (pw_and1 pt_max) (ha.run ρ G Q xq σ H h rs s tk)⟩
theorem qw_or1 (ha : QT X a tA) : QW X (.BoolOp .Or [a] pos) tA := ⟨fun ρ G Q xq σ H h rs s tk => PW.ww (pw_or1 pt_max) (ha.run ρ G Q xq σ H h rs s tk)⟩
theorem qw_and (ha : QT X a tA) (hb : QW X (.BoolOp .And (b :: rest) pos) tB') : QW X (.BoolOp .And (a :: b :: rest) pos) (dAndT tA tB') := by
  refine ⟨fun ρ G Q xq σ H h rs s tk => ?_⟩
  refine PW.ww (pw_and pt_max pw_max) ((ha.run ρ G _ xq σ H h rs s tk).imp fun k H1 ⟨G1, s1, e1, q1⟩ => ?_)
  cases k with
  | true =>
    simp only [if_true] at q1 ⊢
    exact (hb.run ρ G1 Q xq σ H1 q1 (rs.mono e1.tup) s1 (tk.step e1)).imp (LiftB.back e1)
  | false =>
    simp only [Bool.false_eq_true, if_false] at q1 ⊢
    exact ⟨G1, s1, e1, q1⟩
theorem qw_or (ha : QT X a tA) (hb : QW X (.BoolOp .Or (b :: rest) pos) tB') : QW X (.BoolOp .Or (a :: b :: rest) pos) (dOrT tA tB') := by
  refine ⟨fun ρ G Q xq σ H h rs s tk => ?_⟩
  refine PW.ww (pw_or pt_max pw_max) ((ha.run ρ G _ xq σ H h rs s tk).imp fun k H1 ⟨G1, s1, e1, q1⟩ => ?_)
  cases k with
  | true =>
    simp only [if_true] at q1 ⊢
    exact ⟨G1, s1, e1, q1⟩
  | false =>
    simp only [Bool.false_eq_true, if_false] at q1 ⊢
    exact (hb.run ρ G1 Q xq σ H1 q1 (rs.mono e1.tup) s1 (tk.step e1)).imp (LiftB.back e1)
/-! values by truth -/
theorem qe_one {op : BoolOp} (h : QE X a ta) : QE X (.BoolOp op [a] pos) ta := ⟨fun ρ G Q xq σ H q rs s tk => PE.we (pe_one pe_max) (h.run ρ G Q xq σ H q rs s tk)⟩
def dAndV (t u : DE) : DE := fun ρ G Q xq => t ρ G (fun d G1 => truD d G1 fun k G2 => if k = true then u ρ G2 Q xq else Q d G2) xq
def dOrV (t u : DE) : DE := fun ρ G Q xq => t ρ G (fun d G1 => truD d G1 fun k G2 => if k = true then Q d G2 else u ρ G2 Q xq) xq
def dNotV (t : DE) : DE := fun ρ G Q xq => t ρ G (fun d G1 => truD d G1 fun k G2 => Q (.bl (!k)) G2) xq
theorem tru_same {d : D} {G : Sto} {Q : BQ} (h : truD d G Q) : truD d G fun k G' => G' = G ∧ Q k G := by
  cases d with
  | non => exact ⟨rfl, h⟩
  | bl b => exact ⟨rfl, h⟩
  | int i => exact ⟨rfl, h⟩
  | str y => exact ⟨h.1, rfl, h.2⟩
  | tup ds => exact ⟨rfl, h⟩
  | ref a => obtain ⟨ds, g, q⟩ := h; exact ⟨ds, g, rfl, q⟩
  | ty n => exact h
  | rl n => exact ⟨rfl, h⟩
  | sc n => exact h
  | rd n m => exact h
theorem qe_and (ha : QE X a ta) (hb : QE X (.BoolOp .And (b :: rest) pos) tb) : QE X (.BoolOp .And (a :: b :: rest) pos) (dAndV ta tb) := by
  refine ⟨fun ρ G Q xq σ H h rs s tk => ?_⟩
  refine PE.we (pe_andT pe_max pe_max) ((ha.run ρ G _ xq σ H h rs s tk).imp fun v H1 ⟨x, G1, rx, s1, e1, q1⟩ => ?_)
  obtain ⟨k, h1, h2⟩ := tru_ q1 rx s1
  refine ⟨k, h1, ?_⟩
  cases k with
  | true =>
    simp only [if_true] at h2 ⊢
    exact (hb.run ρ G1 Q xq σ H1 h2 (rs.mono e1.tup) s1 (tk.step e1)).imp (Lift.back e1)
  | false =>
    simp only [Bool.false_eq_true, if_false] at h2 ⊢
    exact ⟨x, G1, rx, s1, e1, h2⟩
theorem qe_or (ha : QE X a ta) (hb : QE X (.BoolOp .Or (b :: rest) pos) tb) : QE X (.BoolOp .Or (a :: b :: rest) pos) (dOrV ta tb) := by
  refine ⟨fun ρ G Q xq σ H h rs s tk => ?_⟩
  refine PE.we (pe_orT pe_max pe_max) ((ha.run ρ G _ xq σ H h rs s tk).imp fun v H1 ⟨x, G1, rx, s1, e1, q1⟩ => ?_)
  obtain ⟨k, h1, h2⟩ := tru_ q1 rx s1
  refine ⟨k, h1, ?_⟩
  cases k with
  | true =>
    simp only [if_true] at h2 ⊢
    exact ⟨x, G1, rx, s1, e1, h2⟩
  | false =>
    simp only [Bool.false_eq_true, if_false] at h2 ⊢
    exact (hb.run ρ G1 Q xq σ H1 h2 (rs.mono e1.tup) s1 (tk.step e1)).imp (Lift.back e1)
theorem qe_not (ha : QE X a ta) : QE X (.UnaryOp .Not a pos) (dNotV ta) := by
  refine ⟨fun ρ G Q xq σ H h rs s tk => ?_⟩
  refine PE.we (pe_notT pe_max) ((ha.run ρ G _ xq σ H h rs s tk).imp fun v H1 ⟨x, G1, rx, s1, e1, q1⟩ => ?_)
  obtain ⟨k, h1, h2⟩ := tru_ q1 rx s1
  exact ⟨k, h1, .bl (!k), G1, .bl _, s1, e1, h2⟩
def dIfE (t : DT) (ta tb : DE) : DE := fun ρ G Q xq => t ρ G (fun k G1 => if k = true then ta ρ G1 Q xq else tb ρ G1 Q xq) xq
theorem qe_ife (hc : QT X c tA) (ha : QE X a ta) (hb : QE X b tb) : QE X (.IfExp c a b pos) (dIfE tA ta tb) := by
  refine ⟨fun ρ G Q xq σ H h rs s tk => ?_⟩
  refine PE.we (pe_ifExp pt_max pe_max pe_max) ((hc.run ρ G _ xq σ H h rs s tk).imp fun k H1 ⟨G1, s1, e1, q1⟩ => ?_)
  cases k with
  | true =>
    simp only [if_true] at q1 ⊢
    exact (ha.run ρ G1 Q xq σ H1 q1 (rs.mono e1.tup) s1 (tk.step e1)).imp (Lift.back e1)
  | false =>
    simp only [Bool.false_eq_true, if_false] at q1 ⊢
    exact (hb.run ρ G1 Q xq σ H1 q1 (rs.mono e1.tup) s1 (tk.step e1)).imp (Lift.back e1)
/-! argument lists, displays -/
def dNil : DA := fun _ G Q _ => Q [] G
def dCons (t : DE) (u : DA) : DA := fun ρ G Q xq => t ρ G (fun d G1 => u ρ G1 (fun ds G2 => Q (d :: ds) G2) xq) xq
variable {tas : DA}
theorem qa_nil : QA X [] dNil := ⟨fun ρ G Q xq σ H h rs s tk => PA.wa pa_nil ⟨[], G, .nil, s, .refl, h⟩⟩
theorem qa_cons (ha : QE X e te) (hr : QA X es tas) (hs : starEach (e :: es) X.env = (false, eval e X.env) :: starEach es X.env) : QA X (e :: es) (dCons te tas) := by
  refine ⟨fun ρ G Q xq σ H h rs s tk => ?_⟩
  refine PA.wa (pa_cons pe_max pa_max hs) ((ha.run ρ G _ xq σ H h rs s tk).imp fun v H1 ⟨x, G1, rx, s1, e1, q1⟩ => ?_)
  exact (hr.run ρ G1 _ xq σ H1 q1 (rs.mono e1.tup) s1 (tk.step e1)).imp fun vs H2 ⟨ds, G2, r2, s2, e2, q2⟩ => ⟨x :: ds, G2, .cons (rx.mono e2.tup) r2, s2, e1.trans e2, q2⟩
def dTup (t : DA) : DE := fun ρ G Q xq => t ρ G (fun ds G1 => ds.length ≤ sizeLine ∧ Q (.tup ds) G1) xq
def dLst (t : DA) : DE := fun ρ G Q xq => t ρ G (fun ds G1 => ds.length ≤ sizeLine ∧ ∀ p, G1 p = none → Q (.ref p) (put G1 p (.lst ds))) xq
theorem lift_tup {K : PySem.W.Frag} {G : Sto} {H : Hp} {Q : DQ} {ds : List D} {vs : List V} {p : Addr} (r : Reps K H vs ds) (s : Sim K G H) (q : Q (.tup ds) G) (hp : H p = none) : Lift K G H Q (.ref p) (upd H p (.tup vs)) :=
  ⟨.tup ds, G, .tup (.of upd_same) (r.mono (tup_new hp)), s.newT hp, .newT hp, q⟩
theorem lift_lst {K : PySem.W.Frag} {G : Sto} {H : Hp} {Q : DQ} {ds : List D} {vs : List V} {p : Addr} (r : Reps K H vs ds) (s : Sim K G H) (q : ∀ p, G p = none → Q (.ref p) (put G p (.lst ds))) (hp : H p = none) : Lift K G H Q (.ref p) (upd H p (.lst vs)) :=
  ⟨.ref p, put G p (.lst ds), .ref p, s.new hp ⟨vs, upd_same, r.mono (tup_new hp)⟩, .new hp, q p (s.free hp)⟩
theorem qe_tup {k : Nat} (h : QA X es tas) : QE X (.Tuple es k pos) (dTup tas) := by
  refine ⟨fun ρ G Q xq σ H hq rs s tk => ?_⟩
  refine PE.we (pe_tup pa_max) ((h.run ρ G _ xq σ H hq rs s tk).imp fun vs H1 ⟨ds, G1, r1, s1, e1, l1, q1⟩ => ?_)
  exact ⟨by rw [r1.length]; exact l1, fun p hp => Lift.back e1 _ _ (lift_tup r1 s1 q1 hp)⟩
theorem qe_lst (h : QA X es tas) : QE X (.List es pos) (dLst tas) := by
  refine ⟨fun ρ G Q xq σ H hq rs s tk => ?_⟩
  refine PE.we (pe_lst pa_max) ((h.run ρ G _ xq σ H hq rs s tk).imp fun vs H1 ⟨ds, G1, r1, s1, e1, l1, q1⟩ => ?_)
  exact ⟨by rw [r1.length]; exact l1, fun p hp => Lift.back e1 _ _ (lift_lst r1 s1 q1 hp)⟩
/-! lists by value: locked as soon as they are made -/
theorem WE.lock {σ : L2.St} {H : Hp} {Q : VK} (h : WE X e σ H fun v H' => ∃ p vs, v = .ref p ∧ H' p = some (.lst vs) ∧ ∀ od, Q (.ref p) (upd H' p (.frz od (.lst vs)))) : WE X e σ H Q := fun pins s I =>
  thn (h pins s I) fun u s' ⟨x, H', I', r, p, vs, ex, hp, q⟩ => by
    subst ex
    obtain ⟨od, I2⟩ := I'.lock hp True.intro
    exact ⟨.ref p, _, I2, r, q od⟩
theorem upd_upd {H : Hp} {p : Addr} {a b : HO} : upd (upd H p a) p b = upd H p b := by
  funext c
  unfold upd
  split <;> rfl
theorem lift_rl {K : PySem.W.Frag} {G : Sto} {H : Hp} {Q : DQ} {ds : List D} {vs : List V} {p : Addr} {od : Obj} (r : Reps K H vs ds) (s : Sim K G H) (q : Q (.rl ds) G) (hp : H p = none) : Lift K G H Q (.ref p) (upd H p (.frz od (.lst vs))) :=
  ⟨.rl ds, G, .rl upd_same (r.mono (tup_new hp)), s.newT hp, .newT hp, q⟩
/-- a reading whose list is new, by value -/
theorem WE.val {σ : L2.St} {H : Hp} {G : Sto} {Q : DQ} (h : WE X e σ H fun v H' => ∃ p vs ds G1 H1, v = .ref p ∧ H' = upd H1 p (.lst vs) ∧ H1 p = none ∧ Reps X.K H1 vs ds ∧ Sim X.K G1 H1 ∧ Ext X.K G H G1 H1 ∧ Q (.rl ds) G1) : WE X e σ H (Lift X.K G H Q) := by
  refine WE.lock (h.imp fun v H' ⟨p, vs, ds, G1, H1, ev, eh, hp, r, s, e1, q⟩ => ⟨p, vs, ev, by rw [eh]; exact upd_same, fun od => ?_⟩)
  rw [eh, upd_upd]
  exact Lift.back e1 _ _ (lift_rl r s q hp)
def dLstV (t : DA) : DE := fun ρ G Q xq => t ρ G (fun ds G1 => ds.length ≤ sizeLine ∧ Q (.rl ds) G1) xq
theorem qe_lstV (h : QA X es tas) : QE X (.List es pos) (dLstV tas) := by
  refine ⟨fun ρ G Q xq σ H hq rs s tk => WE.val ?_⟩
  refine PE.we (pe_lst pa_max) ((h.run ρ G _ xq σ H hq rs s tk).imp fun vs H1 ⟨ds, G1, r1, s1, e1, l1, q1⟩ => ?_)
  exact ⟨by rw [r1.length]; exact l1, fun p hp => ⟨p, vs, ds, G1, H1, rfl, rfl, hp, r1, s1, e1, q1⟩⟩
/-- a tracked list, locked and told by value -/
def frzD (d : D) (G : Sto) (Q : DQ) : Prop := match d with
  | .ref a => ∃ ds, G a = some (.lst ds) ∧ Q (.rl ds) (drop G a)
  | _ => False
def dFrz (t : DE) : DE := fun ρ G Q xq => t ρ G (fun d G1 => frzD d G1 Q) xq
theorem qe_frz (h : QE X e te) : QE X e (dFrz te) := by
  refine ⟨fun ρ G Q xq σ H hq rs s tk => WE.lock ?_⟩
  refine (h.run ρ G _ xq σ H hq rs s tk).imp fun v H1 ⟨x, G1, rx, s1, e1, q1⟩ => ?_
  have q1 : frzD x G1 Q := q1
  unfold frzD at q1
  split at q1
  · cases rx
    obtain ⟨ds, g, q⟩ := q1
    obtain ⟨vs, h1, r1⟩ := s1 _ _ g
    exact ⟨_, vs, rfl, h1, fun od => ⟨.rl ds, drop G1 _, .rl upd_same (r1.mono (tup_mut h1 rfl)), s1.lock h1 rfl, e1.trans (.lock g h1 rfl), q⟩⟩
  · exact q1.elim
end
end DL

set_option maxHeartbeats 4000000
/-! tuple * 0, tuple * 1 -/
namespace DL
open PySem PySem.Spec PyProof.Rows L2
theorem tuple_mul0W (l : Addr) (items : Array Value) (n : Nat) (dd : Option Addr) (sl : Array (Option Value)) (x : Int) (u : Tok) (c0 : (decide (x < -(2 ^ 63)) || decide (x ≥ 2 ^ 63)) = false) (c1 : (items.isEmpty || x == 1) = false) (c2 : (decide (x ≤ 0) || items.isEmpty) = true) :
    Meets (Builtin.«tuple.__mul__» ⟨[.ref l, .int x u], []⟩) (fun _ R s => s.heap.get? l = some { cls := .type "tuple", dict := dd, data := .seq items n, slots := sl } ∧
      R (.ok (.ret (Value.ref s.heap.objs.size))) { s with heap := s.heap.push { cls := Value.type "tuple", data := Data.seq #[] }, toks := s.toks }) :=
  .of_wp fun prog w A R s h => by
    obtain ⟨hp, g, d, tk, os⟩ := s
    obtain ⟨hl, h⟩ := h
    have f1 := AutoSeq1.idx_int
    wp_walk using wpAny_loadPart' hl
    repeat (first
      | (refine wpAny_ite_false (decide_eq_false (by rw [c0]; exact Bool.false_ne_true)) ?_; wp_walk using wpAny_loadPart' hl)
      | (refine wpAny_ite_false (decide_eq_false (by rw [c1]; exact Bool.false_ne_true)) ?_; wp_walk using wpAny_loadPart' hl)
      | (refine wpAny_ite_true (decide_eq_true (by rw [c2])) ?_; wp_walk using wpAny_loadPart' hl))
    exact ⟨_, rfl, h⟩
theorem tuple_mul1W (l : Addr) (items : Array Value) (n : Nat) (dd : Option Addr) (sl : Array (Option Value)) (x : Int) (u : Tok) (c0 : (decide (x < -(2 ^ 63)) || decide (x ≥ 2 ^ 63)) = false) (c1 : (items.isEmpty || x == 1) = true) :
    Meets (Builtin.«tuple.__mul__» ⟨[.ref l, .int x u], []⟩) (fun _ R s => s.heap.get? l = some { cls := .type "tuple", dict := dd, data := .seq items n, slots := sl } ∧
      R (.ok (.ret (Value.ref l))) s) :=
  .of_wp fun prog w A R s h => by
    obtain ⟨hp, g, d, tk, os⟩ := s
    obtain ⟨hl, h⟩ := h
    have f1 := AutoSeq1.idx_int
    wp_walk using wpAny_loadPart' hl
    repeat (first
      | (refine wpAny_ite_false (decide_eq_false (by rw [c0]; exact Bool.false_ne_true)) ?_; wp_walk using wpAny_loadPart' hl)
      | (refine wpAny_ite_true (decide_eq_true (by rw [c1])) ?_; wp_walk using wpAny_loadPart' hl))
    exact ⟨_, rfl, h⟩
section
variable {X : Cx}
def rRepT0 (K : PySem.W.Frag) : R2 := fun x y H Q => ∃ l xs, x = .ref l ∧ y = .int 0 ∧ SqT K H l xs ∧ xs ≠ [] ∧ ∀ p, H p = none → Q (.ref p) (upd H p (.tup []))
def rRepT1 (K : PySem.W.Frag) : R2 := fun x y H Q => ∃ l xs, x = .ref l ∧ y = .int 1 ∧ SqT K H l xs ∧ Q (.ref l) H
theorem op_repT0 : OpR X (binaryOp .Mult) (rRepT0 X.K) := by
  intro pins s σ H x y v u Q I rx ry h
  obtain ⟨l, xs, rfl, rfl, hT, hne, q⟩ := h
  cases rx
  obtain ⟨t, rfl⟩ := ry
  obtain ⟨its, r, ⟨⟨cls, dd, data, sl⟩, ho, hc, n, hd⟩, hs⟩ := I.tuple hT
  simp only at hc hd
  subst hc hd
  have hle : its.length = xs.length := r.length.symm
  have hn : its ≠ [] := fun e => hne (by
    rw [e] at hle
    exact List.eq_nil_of_length_eq_zero hle.symm)
  have hi : its.toArray.isEmpty = false := by
    cases its with
    | nil => exact absurd rfl hn
    | cons a b => rfl
  refine wpAny_binaryOp_repeat_ref (T := "tuple") (U := "int") (by decide) ⟨_, ho, rfl⟩ (fun s' => typeIs_int s' 0 t) noFill_tuple_mul F.fills_int_mul F.slot_int_rmul repeat_tuple F.slot_int_index.lookup
    (call_meets F.slot_int_rmul (typeIs_int s 0 t) F.entry_int_rmul (F.args_int_rmul_2 _ _) (int_rmul_tuple 0 t l its.toArray n dd sl)
      ⟨ho, rfl, ⟨_, ho, rfl⟩, call_meets F.slot_tuple_mul ⟨_, ho, rfl⟩ F.entry_tuple_mul (F.args_tuple_mul_2 _ _) (tuple_mul0W l its.toArray n dd sl 0 t (by decide) (by rw [hi]; rfl) (by simp)) ⟨ho, ?_⟩⟩)
  refine ⟨.ref s.heap.objs.size, _, I.laid (t' := s.toks) (o := .tup []) (fun b ob q => Heap.get?_push_of_some _ q) (Nat.le_refl _) ?_, rfl, q _ (I.hok.fresh (Nat.le_refl _))⟩
  exact ⟨by simp, _, .nil, IsTup.new _ _⟩
theorem op_repT1 : OpR X (binaryOp .Mult) (rRepT1 X.K) := by
  intro pins s σ H x y v u Q I rx ry h
  obtain ⟨l, xs, rfl, rfl, hT, q⟩ := h
  cases rx
  obtain ⟨t, rfl⟩ := ry
  obtain ⟨its, r, ⟨⟨cls, dd, data, sl⟩, ho, hc, n, hd⟩, hs⟩ := I.tuple hT
  simp only at hc hd
  subst hc hd
  refine wpAny_binaryOp_repeat_ref (T := "tuple") (U := "int") (by decide) ⟨_, ho, rfl⟩ (fun s' => typeIs_int s' 1 t) noFill_tuple_mul F.fills_int_mul F.slot_int_rmul repeat_tuple F.slot_int_index.lookup
    (call_meets F.slot_int_rmul (typeIs_int s 1 t) F.entry_int_rmul (F.args_int_rmul_2 _ _) (int_rmul_tuple 1 t l its.toArray n dd sl)
      ⟨ho, rfl, ⟨_, ho, rfl⟩, call_meets F.slot_tuple_mul ⟨_, ho, rfl⟩ F.entry_tuple_mul (F.args_tuple_mul_2 _ _) (tuple_mul1W l its.toArray n dd sl 1 t (by decide) (by simp)) ⟨ho, ?_⟩⟩)
  exact ⟨.ref l, H, I, rfl, q⟩
end
end DL

namespace DL
open PySem PySem.Spec PyProof.Rows L2
section
variable {X : Cx}
/-! operators -/
def addD : DR2 := fun x y G Q => match x, y with
  | .int i, .int j => Q (.int (i + j)) G
  | .bl i, .int j => Q (.int ((if i = true then 1 else 0) + j)) G
  | .str i, .str j => i.length + j.length ≤ sizeLine ∧ Q (.str (i ++ j)) G
  | .tup xs, .tup ys => xs.length + ys.length ≤ sizeLine ∧ Q (.tup (xs ++ ys)) G
  | .ref a, .ref b => ∃ xs ys, G a = some (.lst xs) ∧ G b = some (.lst ys) ∧ xs.length + ys.length ≤ sizeLine ∧ ∀ p, G p = none → Q (.ref p) (put G p (.lst (xs ++ ys)))
  | _, _ => False
theorem Reps.nil_of {K : PySem.W.Frag} {H : Hp} {vs : List V} (h : Reps K H vs []) : vs = [] := by cases h; rfl
theorem op_add_bi : OpR X (binaryOp .Add) (fun x y H Q => ∃ (b : Bool) (i : Int), x = .bl b ∧ y = .int i ∧ Q (.int ((if b = true then 1 else 0) + i)) H) := by
  intro pins s σ H x y v u Q I rx ry h
  obtain ⟨b, i, rfl, rfl, q⟩ := h
  obtain rfl : v = Value.bool b := rx
  obtain ⟨t, rfl⟩ := ry
  exact IntBool.add_bool_int ⟨.int _, H, I.tok _, ⟨_, rfl⟩, q⟩
theorem op_sub_bi : OpR X (binaryOp .Sub) (fun x y H Q => ∃ (b : Bool) (i : Int), x = .bl b ∧ y = .int i ∧ Q (.int ((if b = true then 1 else 0) - i)) H) := by
  intro pins s σ H x y v u Q I rx ry h
  obtain ⟨b, i, rfl, rfl, q⟩ := h
  obtain rfl : v = Value.bool b := rx
  obtain ⟨t, rfl⟩ := ry
  exact IntBool.sub_bool_int ⟨.int _, H, I.tok _, ⟨_, rfl⟩, q⟩
theorem op_sub_ib : OpR X (binaryOp .Sub) (fun x y H Q => ∃ (i : Int) (b : Bool), x = .int i ∧ y = .bl b ∧ Q (.int (i - (if b = true then 1 else 0))) H) := by
  intro pins s σ H x y v u Q I rx ry h
  obtain ⟨i, b, rfl, rfl, q⟩ := h
  obtain ⟨t, rfl⟩ := rx
  obtain rfl : u = Value.bool b := ry
  exact IntBool.sub_int_bool ⟨.int _, H, I.tok _, ⟨_, rfl⟩, q⟩
theorem op_addD : OpD X (binaryOp .Add) addD := by
  intro x y G Q v u σ H h rx ry s
  unfold addD at h
  split at h
  · cases rx; cases ry
    exact OpR.wo op_add ⟨_, _, rfl, rfl, Lift.here (.int _) s h⟩
  · cases rx; cases ry
    exact OpR.wo op_add_bi ⟨_, _, rfl, rfl, Lift.here (.int _) s h⟩
  · cases rx; cases ry
    exact OpR.wo op_add_str ⟨_, _, rfl, rfl, h.1, Lift.here (.str _) s h.2⟩
  · cases rx with
    | tup h1 r1 =>
      cases ry with
      | tup h2 r2 =>
        refine OpR.wo op_catA ⟨_, _, _, _, rfl, rfl, h1, h2, by rw [r1.length, r2.length]; exact h.1, fun e => ?_, fun _ e => ?_, fun _ _ p hp => lift_tup (r1.append r2) s h.2 hp⟩
        · subst e
          cases r1
          exact Lift.here (.tup h2 r2) s h.2
        · subst e
          cases r2
          have q := h.2
          rw [List.append_nil] at q
          exact Lift.here (.tup h1 r1) s q
  · cases rx; cases ry
    obtain ⟨xs, ys, g1, g2, hl, q⟩ := h
    obtain ⟨vs, h1, r1⟩ := s _ _ g1
    obtain ⟨us, h2, r2⟩ := s _ _ g2
    exact OpR.wo op_cat ⟨_, _, _, _, rfl, rfl, h1, h2, by rw [r1.length, r2.length]; exact hl, fun p hp => lift_lst (r1.append r2) s q hp⟩
  · exact h.elim
def intD (C : Int → Int → Prop) (g : Int → Int → Int) : DR2 := fun x y G Q => match x, y with
  | .int i, .int j => C i j ∧ Q (.int (g i j)) G
  | _, _ => False
theorem op_intD {f : Value → Value → Sem Value} {C : Int → Int → Prop} {g : Int → Int → Int} (h : OpR X f (rI C fun i j => .int (g i j))) : OpD X f (intD C g) := by
  intro x y G Q v u σ H q rx ry s
  unfold intD at q
  split at q
  · cases rx; cases ry
    exact OpR.wo h ⟨_, _, rfl, rfl, q.1, Lift.here (.int _) s q.2⟩
  · exact q.elim
theorem rI_or {f : Value → Value → Sem Value} {C C' : Int → Int → Prop} {g : Int → Int → V} (h : OpR X f (rI C g)) (h' : OpR X f (rI C' g)) : OpR X f (rI (fun i j => C i j ∨ C' i j) g) := by
  intro pins s σ H x y v u Q I rx ry q
  obtain ⟨i, j, e1, e2, c | c, q⟩ := q
  · exact h pins s σ H x y v u Q I rx ry ⟨i, j, e1, e2, c, q⟩
  · exact h' pins s σ H x y v u Q I rx ry ⟨i, j, e1, e2, c, q⟩
theorem rI_of {f : Value → Value → Sem Value} {g : Int → Int → V} (h : OpR X f (rI0 g)) : OpR X f (rI (fun _ _ => True) g) := by
  intro pins s σ H x y v u Q I rx ry q
  obtain ⟨i, j, e1, e2, _, q⟩ := q
  exact h pins s σ H x y v u Q I rx ry ⟨i, j, e1, e2, q⟩
def subD : DR2 := fun x y G Q => match x, y with
  | .int i, .int j => Q (.int (i - j)) G
  | .bl i, .int j => Q (.int ((if i = true then 1 else 0) - j)) G
  | .int i, .bl j => Q (.int (i - (if j = true then 1 else 0))) G
  | _, _ => False
theorem op_subD : OpD X (binaryOp .Sub) subD := by
  intro x y G Q v u σ H h rx ry s
  unfold subD at h
  split at h
  · cases rx; cases ry
    exact OpR.wo op_sub ⟨_, _, rfl, rfl, Lift.here (.int _) s h⟩
  · cases rx; cases ry
    exact OpR.wo op_sub_bi ⟨_, _, rfl, rfl, Lift.here (.int _) s h⟩
  · cases rx; cases ry
    exact OpR.wo op_sub_ib ⟨_, _, rfl, rfl, Lift.here (.int _) s h⟩
  · exact h.elim
def fdivD : DR2 := fun x y G Q => match x, y with
  | .int i, .int j => (CDiv i j ∨ CDivW i j) ∧ Q (.int (i / j)) G
  | _, _ => False
theorem op_fdivD : OpD X (binaryOp .FloorDiv) fdivD := fun x y G Q v u σ H h => op_intD (C := fun i j => CDiv i j ∨ CDivW i j) (g := fun i j => i / j) (rI_or op_fdiv op_fdivW) x y G Q v u σ H (by cases x <;> cases y <;> exact h)
def modD : DR2 := fun x y G Q => match x, y with
  | .int i, .int j => 0 < j ∧ Q (.int (i % j)) G
  | _, _ => False
theorem op_modD : OpD X (binaryOp .Mod) modD := fun x y G Q v u σ H h => op_intD (C := fun _ j => 0 < j) (g := fun i j => i % j) op_mod x y G Q v u σ H (by cases x <;> cases y <;> exact h)
def powD : DR2 := fun x y G Q => match x, y with
  | .int i, .int j => CPow i j ∧ Q (.int (i ^ j.toNat)) G
  | _, _ => False
theorem op_powD : OpD X (binaryOp .Pow) powD := fun x y G Q v u σ H h => op_intD (C := CPow) (g := fun i j => i ^ j.toNat) op_pow x y G Q v u σ H (by cases x <;> cases y <;> exact h)
def bandD : DR2 := fun x y G Q => match x, y with
  | .int i, .int j => Q (.int (Builtin.bitAnd i j)) G
  | _, _ => False
theorem op_bandD : OpD X (binaryOp .BitAnd) bandD := fun x y G Q v u σ H h => op_intD (C := fun _ _ => True) (g := fun i j => Builtin.bitAnd i j) (rI_of op_and) x y G Q v u σ H (by cases x <;> cases y <;> first | exact ⟨trivial, h⟩ | exact h)
def bxorD : DR2 := fun x y G Q => match x, y with
  | .int i, .int j => Q (.int (Builtin.bitXor i j)) G
  | _, _ => False
theorem op_bxorD : OpD X (binaryOp .BitXor) bxorD := fun x y G Q v u σ H h => op_intD (C := fun _ _ => True) (g := fun i j => Builtin.bitXor i j) (rI_of op_xor) x y G Q v u σ H (by cases x <;> cases y <;> first | exact ⟨trivial, h⟩ | exact h)
def mulD : DR2 := fun x y G Q => match x, y with
  | .int i, .int j => (CMul i j ∨ CMulW i j) ∧ Q (.int (i * j)) G
  | .ref a, .int k => ∃ xs, G a = some (.lst xs) ∧ -(2 ^ 63) ≤ k ∧ k < 2 ^ 63 ∧ xs.length * k.toNat ≤ sizeLine ∧ ∀ p, G p = none → Q (.ref p) (put G p (.lst (List.replicate k.toNat xs).flatten))
  | .tup xs, .int k => xs ≠ [] ∧ 0 ≤ k ∧ k ≤ 1000 ∧ xs.length ≤ 1000 ∧ Q (.tup (List.replicate k.toNat xs).flatten) G
  | _, _ => False
theorem Reps.rep {K : PySem.W.Frag} {H : Hp} {vs : List V} {ds : List D} (h : Reps K H vs ds) : ∀ k : Nat, Reps K H (List.replicate k vs).flatten (List.replicate k ds).flatten
  | 0 => .nil
  | k + 1 => by
    rw [List.replicate_succ, List.replicate_succ, List.flatten_cons, List.flatten_cons]
    exact h.append (Reps.rep h k)
theorem op_mulD : OpD X (binaryOp .Mult) mulD := by
  intro x y G Q v u σ H h rx ry s
  unfold mulD at h
  split at h
  · cases rx; cases ry
    exact OpR.wo (rI_or op_mul op_mulW) ⟨_, _, rfl, rfl, h.1, Lift.here (.int _) s h.2⟩
  · cases rx; cases ry
    obtain ⟨xs, g1, k1, k2, hl, q⟩ := h
    obtain ⟨vs, h1, r1⟩ := s _ _ g1
    exact OpR.wo op_rep ⟨_, _, _, rfl, rfl, h1, k1, k2, by rw [r1.length]; exact hl, fun p hp => lift_lst (r1.rep _) s q hp⟩
  · rename_i xs_ k_
    cases ry
    cases rx with
    | tup h1 r1 =>
      obtain ⟨hn, k0, k2, hl, q⟩ := h
      by_cases e0 : k_ = (0 : Int)
      · subst e0
        refine OpR.wo op_repT0 ⟨_, _, rfl, rfl, h1, fun e => ?_, fun p hp => lift_tup .nil s q hp⟩
        subst e
        cases r1
        exact hn rfl
      by_cases e1 : k_ = (1 : Int)
      · subst e1
        refine OpR.wo op_repT1 ⟨_, _, rfl, rfl, h1, ?_⟩
        have q : Q (.tup (xs_ ++ [])) G := q
        rw [List.append_nil] at q
        exact Lift.here (.tup h1 r1) s q
      have k1 : 2 ≤ k_ := by omega
      refine OpR.wo op_repT ⟨_, _, _, rfl, rfl, h1, fun e => ?_, k1, k2, by rw [r1.length]; exact hl, fun p hp => lift_tup (r1.rep _) s q hp⟩
      subst e
      cases r1
      exact hn rfl
  · exact h.elim
/-! operators whose new list is told by value -/
/-- what a list holds: by value, or tracked -/
def lstD (d : D) (G : Sto) (k : List D → Prop) : Prop := match d with
  | .ref a => ∃ ds, G a = some (.lst ds) ∧ k ds
  | .rl ds => k ds
  | _ => False
theorem lst_ {K : PySem.W.Frag} {d : D} {G : Sto} {k : List D → Prop} {v : V} {H : Hp} (h : lstD d G k) (r : Rep K H v d) (s : Sim K G H) : ∃ p vs ds, v = .ref p ∧ SqL K H p vs ∧ Reps K H vs ds ∧ k ds := by
  cases d with
  | ref a =>
    cases r
    obtain ⟨ds, hg, q⟩ := h
    obtain ⟨vs, h1, h2⟩ := s a _ hg
    exact ⟨_, vs, ds, rfl, .of h1, h2, q⟩
  | rl ds =>
    cases r with
    | rl h1 r1 => exact ⟨_, _, ds, rfl, frz_sq h1, r1, h⟩
  | _ => exact False.elim h
theorem lst_rd {K : PySem.W.Frag} {d : D} {G : Sto} {k : List D → Prop} {v : V} {H : Hp} (h : lstD d G k) (r : Rep K H v d) (s : Sim K G H) : ∃ p vs ds, v = .ref p ∧ Rd H p (.lst vs) ∧ Reps K H vs ds ∧ k ds := by
  cases d with
  | ref a =>
    cases r
    obtain ⟨ds, hg, q⟩ := h
    obtain ⟨vs, h1, h2⟩ := s a _ hg
    exact ⟨_, vs, ds, rfl, .inl h1, h2, q⟩
  | rl ds =>
    cases r with
    | rl h1 r1 => exact ⟨_, _, ds, rfl, .inr ⟨_, h1⟩, r1, h⟩
  | _ => exact False.elim h
def OpV (X : Cx) (f : Value → Value → Sem Value) (r : DR2) : Prop :=
  ∀ x y G Q v u σ H, r x y G Q → Rep X.K H v x → Rep X.K H u y → Sim X.K G H → WO X f v u σ H (fun w H' => ∃ p vs ds, w = .ref p ∧ H' = upd H p (.lst vs) ∧ H p = none ∧ Reps X.K H vs ds ∧ Q (.rl ds) G)
theorem WO.lock {f : Value → Value → Sem Value} {v u : V} {σ : L2.St} {H : Hp} {R : VK} (h : WO X f v u σ H fun v H' => ∃ p vs, v = .ref p ∧ H' p = some (.lst vs) ∧ ∀ od, R (.ref p) (upd H' p (.frz od (.lst vs)))) : WO X f v u σ H R := fun pins s v' u' I rx ry =>
  thn (h pins s v' u' I rx ry) fun w s' ⟨x, H', I', r, p, vs, ex, hp, q⟩ => by
    subst ex
    obtain ⟨od, I2⟩ := I'.lock hp True.intro
    exact ⟨.ref p, _, I2, r, q od⟩
theorem OpV.opd {f : Value → Value → Sem Value} {r : DR2} (h : OpV X f r) : OpD X f r := fun x y G Q v u σ H q rx ry s => by
  refine WO.lock ((h x y G Q v u σ H q rx ry s).imp fun w H' ⟨p, vs, ds, ew, eh, hp, rs, q⟩ => ⟨p, vs, ew, by rw [eh]; exact upd_same, fun od => ?_⟩)
  rw [eh, upd_upd]
  exact lift_rl rs s q hp
theorem op_cat_rd : OpR X (binaryOp .Add) (fun x y H Q => ∃ p q xs ys, x = .ref p ∧ y = .ref q ∧ Rd H p (.lst xs) ∧ Rd H q (.lst ys) ∧ xs.length + ys.length ≤ sizeLine ∧ ∀ b, H b = none → Q (.ref b) (upd H b (.lst (xs ++ ys)))) := by
  intro pins s σ H x y v u Q I rx ry h
  obtain ⟨l, b, xs, zs, rfl, rfl, hH, hB, hz, q⟩ := h
  cases rx
  cases ry
  obtain ⟨z, its, n, r, e⟩ := hH.ok I.hok
  obtain ⟨z2, its2, n2, r2, e2⟩ := hB.ok I.hok
  have hl := r.length
  have hl2 := r2.length
  refine PySem.P.add_list e e2 ?_ (by rw [List.size_toArray, List.size_toArray]; omega)
  rw [show its.toArray ++ its2.toArray = (its ++ its2).toArray by simp]
  exact ⟨.ref _, _, I.lnew (t' := s.toks) (r.append r2) (by rw [List.length_append]; omega), rfl, q _ I.fresh⟩
/-- + where lists may stand: their sum by value -/
def catV : DR2 := fun x y G Q => lstD x G fun xs => lstD y G fun ys => xs.length + ys.length ≤ sizeLine ∧ Q (.rl (xs ++ ys)) G
theorem op_catV : OpV X (binaryOp .Add) catV := by
  intro x y G Q v u σ H h rx ry s
  obtain ⟨p, vs, ds, rfl, hs, r1, h⟩ := lst_rd h rx s
  obtain ⟨p2, vs2, ds2, rfl, hs2, r2, hl, q⟩ := lst_rd h ry s
  exact OpR.wo op_cat_rd ⟨_, _, _, _, rfl, rfl, hs, hs2, by rw [r1.length, r2.length]; exact hl, fun b hb => ⟨b, _, _, rfl, rfl, hb, r1.append r2, q⟩⟩
def addV : DR2 := fun x y G Q => match x, y with
  | .int i, .int j => Q (.int (i + j)) G
  | .bl i, .int j => Q (.int ((if i = true then 1 else 0) + j)) G
  | .str i, .str j => i.length + j.length ≤ sizeLine ∧ Q (.str (i ++ j)) G
  | .tup xs, .tup ys => xs.length + ys.length ≤ sizeLine ∧ Q (.tup (xs ++ ys)) G
  | x, y => catV x y G Q
theorem op_addV : OpD X (binaryOp .Add) addV := by
  intro x y G Q v u σ H h rx ry s
  unfold addV at h
  split at h
  · exact op_addD (.int _) (.int _) G Q v u σ H h rx ry s
  · exact op_addD (.bl _) (.int _) G Q v u σ H h rx ry s
  · exact op_addD (.str _) (.str _) G Q v u σ H h rx ry s
  · exact op_addD (.tup _) (.tup _) G Q v u σ H h rx ry s
  · exact op_catV.opd _ _ G Q v u σ H h rx ry s
/-! data by value: what is compared -/
mutual
inductive Dd (G : Sto) : D → PyData → Prop
  | non : Dd G .non .none
  | bl (b : Bool) : Dd G (.bl b) (.bool b)
  | int (i : Int) : Dd G (.int i) (.int i)
  | str (x : Str) : Dd G (.str x) (.str x)
  | tup {ds : List D} {ps : List PyData} : Dds G ds ps → Dd G (.tup ds) (.tuple ps)
  | lst {a : Addr} {ds : List D} {ps : List PyData} : G a = some (.lst ds) → Dds G ds ps → Dd G (.ref a) (.list ps)
  | rl {ds : List D} {ps : List PyData} : Dds G ds ps → Dd G (.rl ds) (.list ps)
inductive Dds (G : Sto) : List D → List PyData → Prop
  | nil : Dds G [] []
  | cons {d : D} {ds : List D} {p : PyData} {ps : List PyData} : Dd G d p → Dds G ds ps → Dds G (d :: ds) (p :: ps)
end
section
variable {K : PySem.W.Frag} {G : Sto} {H : Hp} (s : Sim K G H)
include s
mutual
theorem Dd.dp : ∀ {d : D} {p : PyData}, Dd G d p → ∀ {v : V}, Rep K H v d → Dp K H v p
  | _, _, .non, _, .non => .non
  | _, _, .bl b, _, .bl _ => .bl b
  | _, _, .int i, _, .int _ => .int i
  | _, _, .str i, _, .str _ => .str i
  | _, _, .tup h, _, .tup h1 r => .tup h1 (Dds.dp h r)
  | _, _, .lst g h, _, .ref _ => by
    obtain ⟨vs, h1, r1⟩ := s _ _ g
    exact .lst (.of h1) (Dds.dp h r1)
  | _, _, .rl h, _, .rl h1 r => .lst (frz_sq h1) (Dds.dp h r)
theorem Dds.dp : ∀ {d : List D} {p : List PyData}, Dds G d p → ∀ {v : List V}, Reps K H v d → DpAll K H v p
  | _, _, .nil, _, .nil => .nil
  | _, _, .cons a b, _, .cons r t => .cons (Dd.dp a r) (Dds.dp b t)
end
end
theorem isEmpty_reps {K : PySem.W.Frag} {H : Hp} {vs : List V} {ds : List D} (r : Reps K H vs ds) : vs.isEmpty = ds.isEmpty := by
  cases r <;> rfl
/-- a tuple of whatever and the empty tuple -/
theorem op_eq_nilT (hu : X.A.units + 64 < cLine) : OpR X (compareOp .Eq) (fun x y H Q => ∃ a b xs, x = .ref a ∧ y = .ref b ∧ SqT X.K H a xs ∧ SqT X.K H b [] ∧ Q (.bl xs.isEmpty) H) := by
  intro pins s σ H x y v u Q I rx ry h
  obtain ⟨a, b, xs, rfl, rfl, ha, hb, q⟩ := h
  obtain rfl : v = Value.ref a := rx
  obtain rfl : u = Value.ref b := ry
  obtain ⟨its, r, p, _⟩ := I.tuple ha
  obtain ⟨its2, r2, p2, _⟩ := I.tuple hb
  cases r2
  have hl := r.length
  refine SeqAt.RcAt.tuples (e := fun _ => true) p p2 (by omega) (fun j h1 h2 => absurd h2 (by simp)) X.prog X.w X.xe _ ⟨.bl xs.isEmpty, H, I, ?_, q⟩
  show Value.bool _ = Value.bool _
  cases xs with
  | nil => cases r; rfl
  | cons x xs => cases r; simp
theorem op_ne_nilT (hu : X.A.units + 64 < cLine) : OpR X (compareOp .NotEq) (fun x y H Q => ∃ a b xs, x = .ref a ∧ y = .ref b ∧ SqT X.K H a xs ∧ SqT X.K H b [] ∧ Q (.bl (!xs.isEmpty)) H) := by
  intro pins s σ H x y v u Q I rx ry h
  obtain ⟨a, b, xs, rfl, rfl, ha, hb, q⟩ := h
  obtain rfl : v = Value.ref a := rx
  obtain rfl : u = Value.ref b := ry
  obtain ⟨its, r, p, _⟩ := I.tuple ha
  obtain ⟨its2, r2, p2, _⟩ := I.tuple hb
  cases r2
  have hl := r.length
  refine SeqAt.RcNeAt.tuples (e := fun _ => true) p p2 (by omega) (fun j h1 h2 => absurd h2 (by simp)) X.prog X.w X.xe _ ⟨.bl (!xs.isEmpty), H, I, ?_, q⟩
  show Value.bool _ = Value.bool _
  cases xs with
  | nil => cases r; rfl
  | cons x xs => cases r; simp
/-- a list of whatever and the empty list -/
theorem op_eq_nilL (hu : X.A.units + 64 < cLine) : OpR X (compareOp .Eq) (fun x y H Q => ∃ a b xs, x = .ref a ∧ y = .ref b ∧ SqL X.K H a xs ∧ SqL X.K H b [] ∧ Q (.bl xs.isEmpty) H) := by
  intro pins s σ H x y v u Q I rx ry h
  obtain ⟨a, b, xs, rfl, rfl, ha, hb, q⟩ := h
  obtain rfl : v = Value.ref a := rx
  obtain rfl : u = Value.ref b := ry
  obtain ⟨its, r, p, _⟩ := I.list ha
  obtain ⟨its2, r2, p2, _⟩ := I.list hb
  cases r2
  cases xs with
  | nil =>
    cases r
    exact SeqAt.RcAt.lists (e := fun _ => true) p.isList p2.isList rfl (by omega) (fun j h1 h2 => absurd h2 (by simp)) X.prog X.w X.xe _ ⟨.bl true, H, I, rfl, q⟩
  | cons x xs =>
    cases r
    exact SeqAt.RcAt.lists_lengths p.isList p2.isList (by simp) (by omega) X.prog X.w X.xe _ ⟨.bl false, H, I, rfl, q⟩
theorem op_ne_nilL (hu : X.A.units + 64 < cLine) : OpR X (compareOp .NotEq) (fun x y H Q => ∃ a b xs, x = .ref a ∧ y = .ref b ∧ SqL X.K H a xs ∧ SqL X.K H b [] ∧ Q (.bl (!xs.isEmpty)) H) := by
  intro pins s σ H x y v u Q I rx ry h
  obtain ⟨a, b, xs, rfl, rfl, ha, hb, q⟩ := h
  obtain rfl : v = Value.ref a := rx
  obtain rfl : u = Value.ref b := ry
  obtain ⟨its, r, p, _⟩ := I.list ha
  obtain ⟨its2, r2, p2, _⟩ := I.list hb
  cases r2
  cases xs with
  | nil =>
    cases r
    exact SeqAt.RcNeAt.lists (e := fun _ => true) p.isList p2.isList rfl (by omega) (fun j h1 h2 => absurd h2 (by simp)) X.prog X.w X.xe _ ⟨.bl false, H, I, rfl, q⟩
  | cons x xs =>
    cases r
    exact SeqAt.RcNeAt.lists_lengths p.isList p2.isList (by simp) (by omega) X.prog X.w X.xe _ ⟨.bl true, H, I, rfl, q⟩
def eqD : DR2 := fun x y G Q => match x, y with
  | .int i, .int j => Q (.bl (i == j)) G
  | .bl i, .bl j => Q (.bl (i == j)) G
  | .str i, .str j => Q (.bl (i == j)) G
  | .tup xs, .tup [] => Q (.bl xs.isEmpty) G
  | .rl xs, .rl [] => Q (.bl xs.isEmpty) G
  | .ref a, .rl [] => ∃ xs, G a = some (.lst xs) ∧ Q (.bl xs.isEmpty) G
  | x, y => ∃ p q, Dd G x p ∧ Dd G y q ∧ SeqAt.shaped p = true ∧ SeqAt.shaped q = true ∧ Q (.bl (PyData.eqv p q)) G
def neD : DR2 := fun x y G Q => match x, y with
  | .int i, .int j => Q (.bl (!(i == j))) G
  | .bl i, .bl j => Q (.bl (!(i == j))) G
  | .str i, .str j => Q (.bl (!(i == j))) G
  | .tup xs, .tup [] => Q (.bl (!xs.isEmpty)) G
  | .rl xs, .rl [] => Q (.bl (!xs.isEmpty)) G
  | .ref a, .rl [] => ∃ xs, G a = some (.lst xs) ∧ Q (.bl (!xs.isEmpty)) G
  | x, y => ∃ p q, Dd G x p ∧ Dd G y q ∧ SeqAt.shaped p = true ∧ SeqAt.shaped q = true ∧ Q (.bl (!PyData.eqv p q)) G
theorem op_eqD' (hu : X.A.units + 64 < cLine) : OpD X (compareOp .Eq) eqD := by
  intro x y G Q v u σ H h rx ry s
  unfold eqD at h
  split at h
  · cases rx; cases ry
    exact OpR.wo op_eq ⟨rfl, Lift.here (.bl _) s (by rw [dec_int]; exact h)⟩
  · cases rx; cases ry
    exact OpR.wo op_eq ⟨rfl, Lift.here (.bl _) s (by rw [dec_bl]; exact h)⟩
  · cases rx; cases ry
    exact OpR.wo op_eq ⟨rfl, Lift.here (.bl _) s (by rw [dec_str]; exact h)⟩
  · cases rx with
    | tup h1 r1 =>
      cases ry with
      | tup h2 r2 =>
        cases r2
        refine OpR.wo (op_eq_nilT hu) ⟨_, _, _, rfl, rfl, h1, h2, ?_⟩
        have e : List.isEmpty _ = List.isEmpty _ := isEmpty_reps r1
        rw [e]
        exact Lift.here (.bl _) s h
  · cases rx with
    | rl h1 r1 =>
      cases ry with
      | rl h2 r2 =>
        cases r2
        refine OpR.wo (op_eq_nilL hu) ⟨_, _, _, rfl, rfl, frz_sq h1, frz_sq h2, ?_⟩
        have e : List.isEmpty _ = List.isEmpty _ := isEmpty_reps r1
        rw [e]
        exact Lift.here (.bl _) s h
  · cases rx
    obtain ⟨xs, g, h⟩ := h
    obtain ⟨vs, h1, r1⟩ := s _ _ g
    cases ry with
    | rl h2 r2 =>
      cases r2
      refine OpR.wo (op_eq_nilL hu) ⟨_, _, _, rfl, rfl, .of h1, frz_sq h2, ?_⟩
      rw [isEmpty_reps r1]
      exact Lift.here (.bl _) s h
  · obtain ⟨p, q, d1, d2, s1, s2, h⟩ := h
    exact OpR.wo (op_eqD hu) ⟨p, q, d1.dp s rx, d2.dp s ry, s1, s2, Lift.here (.bl _) s h⟩
theorem op_neD' (hu : X.A.units + 64 < cLine) : OpD X (compareOp .NotEq) neD := by
  intro x y G Q v u σ H h rx ry s
  unfold neD at h
  split at h
  · cases rx; cases ry
    exact OpR.wo op_ne ⟨rfl, Lift.here (.bl _) s (by rw [dec_int]; exact h)⟩
  · cases rx; cases ry
    exact OpR.wo op_ne ⟨rfl, Lift.here (.bl _) s (by rw [dec_bl]; exact h)⟩
  · cases rx; cases ry
    exact OpR.wo op_ne ⟨rfl, Lift.here (.bl _) s (by rw [dec_str]; exact h)⟩
  · cases rx with
    | tup h1 r1 =>
      cases ry with
      | tup h2 r2 =>
        cases r2
        refine OpR.wo (op_ne_nilT hu) ⟨_, _, _, rfl, rfl, h1, h2, ?_⟩
        have e : List.isEmpty _ = List.isEmpty _ := isEmpty_reps r1
        rw [e]
        exact Lift.here (.bl _) s h
  · cases rx with
    | rl h1 r1 =>
      cases ry with
      | rl h2 r2 =>
        cases r2
        refine OpR.wo (op_ne_nilL hu) ⟨_, _, _, rfl, rfl, frz_sq h1, frz_sq h2, ?_⟩
        have e : List.isEmpty _ = List.isEmpty _ := isEmpty_reps r1
        rw [e]
        exact Lift.here (.bl _) s h
  · cases rx
    obtain ⟨xs, g, h⟩ := h
    obtain ⟨vs, h1, r1⟩ := s _ _ g
    cases ry with
    | rl h2 r2 =>
      cases r2
      refine OpR.wo (op_ne_nilL hu) ⟨_, _, _, rfl, rfl, .of h1, frz_sq h2, ?_⟩
      rw [isEmpty_reps r1]
      exact Lift.here (.bl _) s h
  · obtain ⟨p, q, d1, d2, s1, s2, h⟩ := h
    exact OpR.wo (op_neD hu) ⟨p, q, d1.dp s rx, d2.dp s ry, s1, s2, Lift.here (.bl _) s h⟩
/-! order -/
def ordD (g : Int → Int → Bool) (gs : Str → Str → Bool) : DR2 := fun x y G Q => match x, y with
  | .int i, .int j => Q (.bl (g i j)) G
  | .str i, .str j => Q (.bl (gs i j)) G
  | _, _ => False
theorem op_ordD {f : Value → Value → Sem Value} {g : Int → Int → Bool} {gs : Str → Str → Bool} (h : OpR X f (rI0 fun i j => .bl (g i j))) (h' : OpR X f (fun x y H Q => ∃ i j, x = .str i ∧ y = .str j ∧ Q (.bl (gs i j)) H)) : OpD X f (ordD g gs) := by
  intro x y G Q v u σ H q rx ry s
  unfold ordD at q
  split at q
  · cases rx; cases ry
    exact OpR.wo h ⟨_, _, rfl, rfl, Lift.here (.bl _) s q⟩
  · cases rx; cases ry
    exact OpR.wo h' ⟨_, _, rfl, rfl, Lift.here (.bl _) s q⟩
  · exact q.elim
def ltD : DR2 := fun x y G Q => match x, y with
  | .int i, .int j => Q (.bl (decide (i < j))) G
  | .str i, .str j => Q (.bl (decide (i.cps.toList < j.cps.toList))) G
  | _, _ => False
theorem op_ltD : OpD X (compareOp .Lt) ltD := fun x y G Q v u σ H h => op_ordD (g := fun i j => decide (i < j)) (gs := fun i j => decide (i.cps.toList < j.cps.toList)) op_lt op_lt_str x y G Q v u σ H (by cases x <;> cases y <;> exact h)
def leD : DR2 := fun x y G Q => match x, y with
  | .int i, .int j => Q (.bl (decide (i ≤ j))) G
  | .str i, .str j => Q (.bl (!decide (j.cps.toList < i.cps.toList))) G
  | _, _ => False
theorem op_leD : OpD X (compareOp .LtE) leD := fun x y G Q v u σ H h => op_ordD (g := fun i j => decide (i ≤ j)) (gs := fun i j => !decide (j.cps.toList < i.cps.toList)) op_le op_le_str x y G Q v u σ H (by cases x <;> cases y <;> exact h)
def gtD : DR2 := fun x y G Q => match x, y with
  | .int i, .int j => Q (.bl (decide (j < i))) G
  | .str i, .str j => Q (.bl (decide (j.cps.toList < i.cps.toList))) G
  | _, _ => False
theorem op_gtD : OpD X (compareOp .Gt) gtD := fun x y G Q v u σ H h => op_ordD (g := fun i j => decide (j < i)) (gs := fun i j => decide (j.cps.toList < i.cps.toList)) op_gt op_gt_str x y G Q v u σ H (by cases x <;> cases y <;> exact h)
def geD : DR2 := fun x y G Q => match x, y with
  | .int i, .int j => Q (.bl (decide (j ≤ i))) G
  | .str i, .str j => Q (.bl (!decide (i.cps.toList < j.cps.toList))) G
  | _, _ => False
theorem op_geD : OpD X (compareOp .GtE) geD := fun x y G Q v u σ H h => op_ordD (g := fun i j => decide (j ≤ i)) (gs := fun i j => !decide (i.cps.toList < j.cps.toList)) op_ge op_ge_str x y G Q v u σ H (by cases x <;> cases y <;> exact h)
/-! is None, is True -/
def isD : DR2 := fun x y G Q => match x, y with
  | .non, .non => Q (.bl true) G
  | _, .non => Q (.bl false) G
  | .bl a, .bl b => Q (.bl (decide (a = b))) G
  | _, .bl _ => Q (.bl false) G
  | _, _ => False
def isnD : DR2 := fun x y G Q => match x, y with
  | .non, .non => Q (.bl false) G
  | _, .non => Q (.bl true) G
  | .bl a, .bl b => Q (.bl (!decide (a = b))) G
  | _, .bl _ => Q (.bl true) G
  | _, _ => False
theorem rel_nobl {x : V} {v : Value} {b : Bool} (r : RelV x v) (h : ∀ a, x ≠ .bl a) : v ≠ .bool b := fun e => by
  subst e
  cases x with
  | bl a => exact h a rfl
  | int i => obtain ⟨t, z⟩ := r; cases z
  | str i => obtain ⟨t, z⟩ := r; cases z
  | byt i => obtain ⟨t, z⟩ := r; cases z
  | flt i => obtain ⟨t, z⟩ := r; cases z
  | _ => cases r
theorem plainIs_bl {x : V} {v : Value} {b : Bool} (r : RelV x v) : plainIs v (.bool b) = true := by
  cases v with
  | builtin id =>
    cases x with
    | int i => obtain ⟨t, z⟩ := r; cases z
    | str i => obtain ⟨t, z⟩ := r; cases z
    | byt i => obtain ⟨t, z⟩ := r; cases z
    | flt i => obtain ⟨t, z⟩ := r; cases z
    | _ => cases r
  | _ => rfl
theorem op_is_nobl : OpR X (compareOp .Is) (fun x y H Q => ∃ b, y = .bl b ∧ (∀ a, x ≠ .bl a) ∧ Q (.bl false) H) := by
  intro pins s σ H x y v u Q I rx ry h
  obtain ⟨b, rfl, hx, q⟩ := h
  obtain rfl : u = Value.bool b := ry
  exact wpAny_is_other (plainIs_bl rx) (rel_nobl rx hx) ⟨.bl false, H, I, rfl, q⟩
theorem op_isnot_nobl : OpR X (compareOp .IsNot) (fun x y H Q => ∃ b, y = .bl b ∧ (∀ a, x ≠ .bl a) ∧ Q (.bl true) H) := by
  intro pins s σ H x y v u Q I rx ry h
  obtain ⟨b, rfl, hx, q⟩ := h
  obtain rfl : u = Value.bool b := ry
  exact wpAny_isNot_other (plainIs_bl rx) (rel_nobl rx hx) ⟨.bl true, H, I, rfl, q⟩
theorem Rep.non_iff {K : PySem.W.Frag} {H : Hp} {v : V} {d : D} (r : Rep K H v d) (h : d ≠ .non) : decide (v = V.non) = false := by
  apply decide_eq_false
  intro e
  subst e
  cases r
  exact h rfl
theorem Rep.nobl {K : PySem.W.Frag} {H : Hp} {v : V} {d : D} (r : Rep K H v d) (h : ∀ a, d ≠ .bl a) : ∀ a, v ≠ .bl a := fun a e => by
  subst e
  cases r
  exact h a rfl
theorem op_isD : OpD X (compareOp .Is) isD := by
  intro x y G Q v u σ H h rx ry s
  unfold isD at h
  split at h
  · cases rx; cases ry
    exact OpR.wo op_isN ⟨rfl, Lift.here (.bl true) s h⟩
  · rename_i hx
    cases ry
    refine OpR.wo op_isN ⟨rfl, ?_⟩
    rw [rx.non_iff (fun e => hx e)]
    exact Lift.here (.bl false) s h
  · cases rx; cases ry
    exact OpR.wo op_is_bl ⟨_, _, rfl, rfl, Lift.here (.bl _) s h⟩
  · rename_i hx
    cases ry
    exact OpR.wo op_is_nobl ⟨_, rfl, rx.nobl fun a e => hx a e, Lift.here (.bl false) s h⟩
  · exact h.elim
theorem op_isnD : OpD X (compareOp .IsNot) isnD := by
  intro x y G Q v u σ H h rx ry s
  unfold isnD at h
  split at h
  · cases rx; cases ry
    exact OpR.wo op_notN ⟨rfl, Lift.here (.bl false) s h⟩
  · rename_i hx
    cases ry
    refine OpR.wo op_notN ⟨rfl, ?_⟩
    rw [rx.non_iff (fun e => hx e)]
    exact Lift.here (.bl true) s h
  · cases rx; cases ry
    exact OpR.wo op_isnot_bl ⟨_, _, rfl, rfl, Lift.here (.bl _) s h⟩
  · rename_i hx
    cases ry
    exact OpR.wo op_isnot_nobl ⟨_, rfl, rx.nobl fun a e => hx a e, Lift.here (.bl true) s h⟩
  · exact h.elim
/-! in -/
def flatD : D → Bool
  | .non => true | .bl _ => true | .int _ => true | .str _ => true
  | _ => false
def eqF : D → D → Bool
  | .non, .non => true
  | .bl a, .bl b => a == b
  | .bl a, .int j => (if a then 1 else 0) == j
  | .int i, .bl b => i == (if b then 1 else 0)
  | .int i, .int j => i == j
  | .str x, .str y => x == y
  | _, _ => false
def memF (x : D) (xs : List D) : Bool := xs.any fun y => eqF y x
end
end DL

namespace DL
open PySem PySem.Spec PyProof.Rows L2
/-! dicts with ints and texts for keys -/
def keyD : D → Option Key
  | .int i => some (.inl i)
  | .str x => some (.inr x)
  | _ => none
def keyV : Key → D
  | .inl i => .int i
  | .inr x => .str x
theorem keyD_rep {K : PySem.W.Frag} {H : Hp} {v : V} {d : D} {k : Key} (h : keyD d = some k) (r : Rep K H v d) : v = kV k := by
  cases d with
  | int i => cases r; cases h; rfl
  | str i => cases r; cases h; rfl
  | _ => cases h
/-- keys compared by a Bool that computes -/
def keq : Key → Key → Bool
  | .inl a, .inl b => a == b
  | .inr a, .inr b => a == b
  | _, _ => false
theorem keq_iff {a b : Key} : keq a b = true ↔ a = b := by
  cases a with
  | inl x =>
    cases b with
    | inl y => exact ⟨fun h => by rw [eq_of_beq h], fun h => by cases h; exact beq_self_eq_true x⟩
    | inr y => exact ⟨fun h => (nomatch (show false = true from h)), fun h => (nomatch h)⟩
  | inr x =>
    cases b with
    | inl y => exact ⟨fun h => (nomatch (show false = true from h)), fun h => (nomatch h)⟩
    | inr y => exact ⟨fun h => by rw [eq_of_beq h], fun h => by cases h; exact beq_self_eq_true x⟩
def valR : List Key → List D → Key → Option D
  | k :: ks, d :: ds, j => if keq k j = true then some d else valR ks ds j
  | _, _, _ => none
def unlike : List Key → Bool
  | [] => true
  | k :: ks => !(ks.any fun j => keq j k) && unlike ks
section
variable {κ : Type} [DecidableEq κ]
def valD (kvs : List (κ × D)) (k : κ) : Option D := (kvs.find? fun kv => decide (kv.1 = k)).map (·.2)
def putD (kvs : List (κ × D)) (k : κ) (v : D) : List (κ × D) :=
  if (kvs.any fun kv => decide (kv.1 = k)) = true then kvs.map (fun kv => if kv.1 = k then (kv.1, v) else kv) else kvs ++ [(k, v)]
def dropD (kvs : List (κ × D)) (k : κ) : List (κ × D) := kvs.filter fun kv => decide (kv.1 ≠ k)
variable {K : PySem.W.Frag} {H : Hp}
theorem RepKV.val : ∀ {m : List (κ × V)} {kvs : List (κ × D)} (k : κ), RepKV K H m kvs → (∀ d, valD kvs k = some d → ∃ v, valV m k = some v ∧ Rep K H v d) ∧ (valD kvs k = none → valV m k = none)
  | [], [], _, _ => ⟨fun d h => (nomatch (show (none : Option D) = some d from h)), fun _ => rfl⟩
  | (j, v) :: r, (j', d) :: q, k, ⟨e, rv, rr⟩ => by
    subst e
    have ih := RepKV.val k rr
    by_cases h : j = k
    · have e1 : valD ((j, d) :: q) k = some d := by simp [valD, List.find?_cons, h]
      have e2 : valV ((j, v) :: r) k = some v := by simp [valV, List.find?_cons, h]
      rw [e1, e2]
      exact ⟨fun d' z => by cases z; exact ⟨v, rfl, rv⟩, fun z => by cases z⟩
    · have e1 : valD ((j, d) :: q) k = valD q k := by simp [valD, List.find?_cons, h]
      have e2 : valV ((j, v) :: r) k = valV r k := by simp [valV, List.find?_cons, h]
      rw [e1, e2]
      exact ih
  | [], _ :: _, _, h => h.elim
  | _ :: _, [], _, h => h.elim
theorem RepKV.length : ∀ {m : List (κ × V)} {kvs : List (κ × D)}, RepKV K H m kvs → m.length = kvs.length
  | [], [], _ => rfl
  | (_, _) :: _, (_, _) :: _, ⟨_, _, rr⟩ => by rw [List.length_cons, List.length_cons, RepKV.length rr]
  | [], _ :: _, h => h.elim
  | _ :: _, [], h => h.elim
theorem RepKV.any : ∀ {m : List (κ × V)} {kvs : List (κ × D)} (k : κ), RepKV K H m kvs → (m.any fun kv => decide (kv.1 = k)) = (kvs.any fun kv => decide (kv.1 = k))
  | [], [], _, _ => rfl
  | (j, v) :: r, (j', d) :: q, k, ⟨e, rv, rr⟩ => by
    subst e
    rw [List.any_cons, List.any_cons, RepKV.any k rr]
  | [], _ :: _, _, h => h.elim
  | _ :: _, [], _, h => h.elim
theorem RepKV.over {k : κ} {v : V} {d : D} (rv : Rep K H v d) : ∀ {m : List (κ × V)} {kvs : List (κ × D)}, RepKV K H m kvs → RepKV K H (m.map fun kv => if kv.1 = k then (kv.1, v) else kv) (kvs.map fun kv => if kv.1 = k then (kv.1, d) else kv)
  | [], [], _ => True.intro
  | (j, u) :: r, (j', e) :: q, ⟨ee, ru, rr⟩ => by
    subst ee
    rw [List.map_cons, List.map_cons]
    by_cases h : j = k
    · rw [if_pos h, if_pos h]
      exact ⟨rfl, rv, RepKV.over rv rr⟩
    · rw [if_neg h, if_neg h]
      exact ⟨rfl, ru, RepKV.over rv rr⟩
  | [], _ :: _, h => h.elim
  | _ :: _, [], h => h.elim
theorem RepKV.snoc {k : κ} {v : V} {d : D} (rv : Rep K H v d) : ∀ {m : List (κ × V)} {kvs : List (κ × D)}, RepKV K H m kvs → RepKV K H (m ++ [(k, v)]) (kvs ++ [(k, d)])
  | [], [], _ => ⟨rfl, rv, True.intro⟩
  | (j, u) :: r, (j', e) :: q, ⟨ee, ru, rr⟩ => ⟨ee, ru, RepKV.snoc rv rr⟩
  | [], _ :: _, h => h.elim
  | _ :: _, [], h => h.elim
theorem RepKV.put {m : List (κ × V)} {kvs : List (κ × D)} {k : κ} {v : V} {d : D} (r : RepKV K H m kvs) (rv : Rep K H v d) : RepKV K H (putK m k v) (putD kvs k d) := by
  unfold putK putD
  rw [r.any k]
  split
  · exact r.over rv
  · exact r.snoc rv
end
theorem valR_eq : ∀ (ks : List Key) (ds : List D) (k : Key), valR ks ds k = valD (ks.zip ds) k
  | [], _, _ => by simp [valR, valD]
  | _ :: _, [], _ => by simp [valR, valD]
  | j :: ks, d :: ds, k => by
    unfold valR
    have ih := valR_eq ks ds k
    rw [ih]
    by_cases h : j = k
    · rw [if_pos (keq_iff.mpr h)]
      simp [valD, h]
    · rw [if_neg (fun z => h (keq_iff.mp z))]
      simp [valD, h]
def mergeD (kvs more : List (Key × D)) : List (Key × D) := more.foldl (fun acc kv => putD acc kv.1 kv.2) kvs
theorem RepKV.merge {K : PySem.W.Frag} {H : Hp} : ∀ {m' : List (Key × V)} {kvs' : List (Key × D)} {m : List (Key × V)} {kvs : List (Key × D)}, RepKV K H m' kvs' → RepKV K H m kvs → RepKV K H (mergeK m m') (mergeD kvs kvs')
  | [], [], _, _, _, r => r
  | (j, v) :: q, (j', d) :: q', m, kvs, ⟨e, rv, rr⟩, r => by
    subst e
    show RepKV K H (mergeK (putK m j v) q) (mergeD (putD kvs j d) q')
    exact RepKV.merge rr (r.put rv)
  | [], _ :: _, _, _, h, _ => h.elim
  | _ :: _, [], _, _, h, _ => h.elim
theorem mergeD_app : ∀ (more kvs : List (Key × D)), unlike (more.map (·.1)) = true → (∀ kv ∈ kvs, ∀ m ∈ more, kv.1 ≠ m.1) → mergeD kvs more = kvs ++ more
  | [], kvs, _, _ => by simp [mergeD]
  | (k, d) :: r, kvs, h, hk => by
    rw [show mergeD kvs ((k, d) :: r) = mergeD (putD kvs k d) r from rfl]
    have h' : (!((r.map (·.1)).any fun j => keq j k) && unlike (r.map (·.1))) = true := h
    rw [Bool.and_eq_true, Bool.not_eq_true'] at h'
    have e : putD kvs k d = kvs ++ [(k, d)] := by
      unfold putD
      rw [if_neg]
      intro z
      obtain ⟨kv, m1, m2⟩ := List.any_eq_true.mp z
      exact hk kv m1 (k, d) (by simp) (of_decide_eq_true m2)
    rw [e, mergeD_app r _ h'.2, List.append_assoc]
    · rfl
    · intro kv m1 m m2
      rcases List.mem_append.mp m1 with m1 | m1
      · exact hk kv m1 m (by simp [m2])
      · rw [List.mem_singleton] at m1
        subst m1
        intro z
        have := List.any_eq_false.mp h'.1 m.1 (List.mem_map.mpr ⟨m, m2, rfl⟩)
        exact this (keq_iff.mpr z.symm)
theorem mergeD_len : ∀ (more kvs : List (Key × D)), (mergeD kvs more).length ≤ kvs.length + more.length
  | [], kvs => by simp [mergeD]
  | (k, d) :: r, kvs => by
    have h : (putD kvs k d).length ≤ kvs.length + 1 := by
      unfold putD
      split <;> simp
    have := mergeD_len r (putD kvs k d)
    rw [show mergeD kvs ((k, d) :: r) = mergeD (putD kvs k d) r from rfl, List.length_cons]
    omega
section
variable {X : Cx}
theorem ix_dict (hu : X.A.units + 1 < cLine) : IxR X (fun x y H Q => ∃ a v, x = .ref a ∧ DGet H a y (some v) ∧ Q v H) := by
  intro value slice pins s σ H x y v u Q I rx ry h hs
  obtain ⟨a, w, rfl, g, q⟩ := h
  obtain rfl : v = Value.ref a := rx
  exact tail_any (dict_typeIs I g) PySem.F.slot_dict_getitem.lookup (d_getItem hu I g ry fun w' s' I' r' => ⟨w, H, I', r', q⟩) hs
theorem op_in_dict (hu : X.A.units + 1 < cLine) : OpR X (compareOp .In) (fun x y H Q => ∃ a o, y = .ref a ∧ DGet H a x o ∧ Q (.bl o.isSome) H) := by
  intro pins s σ H x y v u Q I rx ry h
  obtain ⟨a, o, rfl, g, q⟩ := h
  obtain rfl : u = Value.ref a := ry
  exact d_in hu I g rx fun s' I' => ⟨.bl o.isSome, H, I', rfl, q⟩
theorem op_nin_dict (hu : X.A.units + 1 < cLine) : OpR X (compareOp .NotIn) (fun x y H Q => ∃ a o, y = .ref a ∧ DGet H a x o ∧ Q (.bl (!o.isSome)) H) := by
  intro pins s σ H x y v u Q I rx ry h
  obtain ⟨a, o, rfl, g, q⟩ := h
  obtain rfl : u = Value.ref a := ry
  exact d_notIn hu I g rx fun s' I' => ⟨.bl (!o.isSome), H, I', rfl, q⟩
theorem set_dict (hu : X.A.units + 1 < cLine) : PSet X (fun o i v H Q => ∃ a H', o = .ref a ∧ DPut H a i v H' ∧ Q H') := by
  intro pins s σ H o i v ov iv u Q I ro ri rv h
  obtain ⟨a, H', rfl, g, q⟩ := h
  obtain rfl : ov = Value.ref a := ro
  exact d_setItem hu I g ri rv fun s' I' => ⟨H', I', q⟩
/-- what a dict holds at a key -/
theorem dget_of {K : PySem.W.Frag} {G : Sto} {H : Hp} {a : Addr} {kvs : List (Key × D)} {y : D} {k : Key} {u : V} (s : Sim K G H) (g : G a = some (.dK kvs)) (hk : keyD y = some k) (ry : Rep K H u y) :
    (∀ d, valD kvs k = some d → ∃ v, DGet H a u (some v) ∧ Rep K H v d) ∧ (DGet H a u (match valD kvs k with | none => none | some _ => some (match valV (match H a with | some (.dK m) => m | _ => []) k with | some v => v | none => .non))) := by
  obtain ⟨m, hm, rm⟩ := s a _ g
  obtain rfl := keyD_rep hk ry
  have hv := rm.val k
  refine ⟨fun d hd => ?_, ?_⟩
  · obtain ⟨v, h1, h2⟩ := hv.1 d hd
    refine ⟨v, ?_, h2⟩
    rw [← h1]
    exact DGet.k hm
  · rw [hm]
    cases e : valD kvs k with
    | none =>
      show DGet H a (kV k) none
      rw [← hv.2 e]
      exact DGet.k hm
    | some d =>
      obtain ⟨v, h1, h2⟩ := hv.1 d e
      show DGet H a (kV k) (some (match valV m k with | some v => v | none => .non))
      rw [h1]
      show DGet H a (kV k) (some v)
      rw [← h1]
      exact DGet.k hm
theorem din_of {K : PySem.W.Frag} {G : Sto} {H : Hp} {a : Addr} {kvs : List (Key × D)} {y : D} {k : Key} {u : V} (s : Sim K G H) (g : G a = some (.dK kvs)) (hk : keyD y = some k) (ry : Rep K H u y) :
    ∃ o, DGet H a u o ∧ o.isSome = (valD kvs k).isSome := by
  refine ⟨_, (dget_of s g hk ry).2, ?_⟩
  cases valD kvs k <;> rfl
/-! displays -/
abbrev DKv := Ev → Sto → (List (D × D) → Sto → Prop) → XQ → Prop
def kvNil : DKv := fun _ G Q _ => Q [] G
def kvCons (tk tv : DE) (r : DKv) : DKv := fun ρ G Q xq => tk ρ G (fun x G1 => tv ρ G1 (fun y G2 => r ρ G2 (fun ps G3 => Q ((x, y) :: ps) G3) xq) xq) xq
def RepP (K : PySem.W.Frag) (H : Hp) : List (V × V) → List (D × D) → Prop
  | [], [] => True
  | (v, u) :: r, (d, e) :: q => Rep K H v d ∧ Rep K H u e ∧ RepP K H r q
  | _, _ => False
theorem RepP.mono {K : PySem.W.Frag} {H H' : Hp} (t : TupExt K H H') : ∀ {l : List (V × V)} {m : List (D × D)}, RepP K H l m → RepP K H' l m
  | [], [], h => h
  | (_, _) :: _, (_, _) :: _, ⟨a, b, c⟩ => ⟨a.mono t, b.mono t, RepP.mono t c⟩
  | [], _ :: _, h => h.elim
  | _ :: _, [], h => h.elim
def trsOf (X : Cx) : List (Option Expr) → List Expr → List (TE × TE)
  | some k :: ks, v :: vs => (WE X k, WE X v) :: trsOf X ks vs
  | _, _ => []
structure QKv (X : Cx) (ks : List (Option Expr)) (vs : List Expr) (t : DKv) : Prop where
  pp : ∀ pos, PPs X pos ks vs (trsOf X ks vs)
  len : ks.length = vs.length
  all : ks.all (·.isSome) = true
  run : ∀ ρ G Q xq σ H, t ρ G Q xq → RepS X.K H σ ρ → Sim X.K G H → Tk X σ G H xq → tPairs (trsOf X ks vs) σ H fun ps H' => ∃ prs G', RepP X.K H' ps prs ∧ Sim X.K G' H' ∧ Ext X.K G H G' H' ∧ Q prs G'
theorem tPairs_imp : ∀ {trs : List (TE × TE)} {σ : L2.St} {H : Hp} {Q Q' : List (V × V) → Hp → Prop}, (∀ p ∈ trs, (∃ e : Expr, p.1 = WE X e) ∧ ∃ e : Expr, p.2 = WE X e) → tPairs trs σ H Q → (∀ ps H', Q ps H' → Q' ps H') → tPairs trs σ H Q'
  | [], _, _, _, _, _, h, i => i _ _ h
  | (tk, tv) :: r, σ, H, Q, Q', hw, h, i => by
    obtain ⟨⟨e1, h1⟩, ⟨e2, h2⟩⟩ := hw (tk, tv) (by simp)
    have h1' : tk = WE X e1 := h1
    have h2' : tv = WE X e2 := h2
    subst h1' h2'
    exact WE.imp h fun x H1 q1 => WE.imp q1 fun y H2 q2 => tPairs_imp (fun p hp => hw p (by simp [hp])) q2 fun ps H3 q3 => i _ _ q3
theorem trs_we : ∀ (ks : List (Option Expr)) (vs : List Expr), ∀ p ∈ trsOf X ks vs, (∃ e : Expr, p.1 = WE X e) ∧ ∃ e : Expr, p.2 = WE X e
  | some k :: ks, v :: vs, p, hp => by
    unfold trsOf at hp
    rcases List.mem_cons.mp hp with rfl | hp
    · exact ⟨⟨k, rfl⟩, ⟨v, rfl⟩⟩
    · exact trs_we ks vs p hp
  | [], _, p, hp => by simp [trsOf] at hp
  | none :: _, _, p, hp => by simp [trsOf] at hp
  | some _ :: _, [], p, hp => by simp [trsOf] at hp
theorem qkv_nil : QKv X [] [] kvNil := ⟨fun _ => pps_nil, rfl, rfl, fun ρ G Q xq σ H h rs s tk => ⟨[], G, True.intro, s, .refl, h⟩⟩
theorem qkv_cons {k v : Expr} {ks : List (Option Expr)} {vs : List Expr} {tk tv : DE} {r : DKv} (hk : QE X k tk) (hv : QE X v tv) (hr : QKv X ks vs r) : QKv X (some k :: ks) (v :: vs) (kvCons tk tv r) := by
  refine ⟨fun pos => pps_cons pe_max pe_max (hr.pp pos), by rw [List.length_cons, List.length_cons, hr.len], by rw [List.all_cons, hr.all]; rfl, fun ρ G Q xq σ H h rs s t => ?_⟩
  refine (hk.run ρ G _ xq σ H h rs s t).imp fun x H1 ⟨dx, G1, rx, s1, e1, q1⟩ => ?_
  refine (hv.run ρ G1 _ xq σ H1 q1 (rs.mono e1.tup) s1 (t.step e1)).imp fun y H2 ⟨dy, G2, ry, s2, e2, q2⟩ => ?_
  have e12 := e1.trans e2
  refine tPairs_imp (trs_we ks vs) (hr.run ρ G2 _ xq σ H2 q2 (rs.mono e12.tup) s2 (t.step e12)) fun ps H3 ⟨prs, G3, r3, s3, e3, q3⟩ => ?_
  exact ⟨(dx, dy) :: prs, G3, ⟨(rx.mono e2.tup).mono e3.tup, ry.mono e3.tup, r3⟩, s3, e12.trans e3, q3⟩
def kvDs (kvs : List (Key × D)) : List (D × D) := kvs.map fun kv => (keyV kv.1, kv.2)
def dDisp (r : DKv) : DE := fun ρ G Q xq => ∀ p, G p = none → r ρ (put G p (.dK [])) (fun ps G2 => G2 p = some (.dK []) ∧ ∃ kvs, ps = kvDs kvs ∧ kvs.length ≤ 15 ∧ Q (.ref p) (put G2 p (.dK (mergeD [] kvs)))) xq
theorem repP_keys {K : PySem.W.Frag} {H : Hp} : ∀ {ps : List (V × V)} {kvs : List (Key × D)}, RepP K H ps (kvDs kvs) → ∃ m : List (Key × V), ps = m.map (fun kv => (kV kv.1, kv.2)) ∧ RepKV K H m kvs
  | [], [], _ => ⟨[], rfl, True.intro⟩
  | (v, u) :: r, (k, d) :: q, h => by
    obtain ⟨h1, h2, h3⟩ := h
    obtain ⟨m, e, rm⟩ := repP_keys (ps := r) (kvs := q) h3
    refine ⟨(k, u) :: m, ?_, rfl, h2, rm⟩
    rw [List.map_cons, ← e]
    have : v = kV k := by
      cases k with
      | inl i => cases h1; rfl
      | inr x => cases h1; rfl
    rw [this]
  | [], _ :: _, h => h.elim
  | _ :: _, [], h => h.elim
theorem qe_disp {ks : List (Option Expr)} {vs : List Expr} {r : DKv} {pos : Pos} (h : QKv X ks vs r) (h15 : ks.length ≤ 15) : QE X (.Dict ks vs pos) (dDisp r) := by
  refine ⟨fun ρ G Q xq σ H hq rs s tk => ?_⟩
  cases ks with
  | nil =>
    have hv : vs = [] := List.eq_nil_of_length_eq_zero (by rw [← h.len]; rfl)
    subst hv
    refine PE.we pe_dnewK fun p hp => ?_
    have en : Ext X.K G H (put G p (.dK [])) (upd H p (.dK [])) := .new hp
    have sn : Sim X.K (put G p (.dK [])) (upd H p (.dK [])) := s.new hp ⟨[], upd_same, True.intro⟩
    have := h.run ρ _ _ xq σ (upd H p (.dK [])) (hq p (s.free hp)) (rs.mono en.tup) sn (tk.step en)
    obtain ⟨prs, G', rp, s', e', g', kvs, ek, hl, q⟩ := this
    subst ek
    have hk0 : kvs = [] := by
      cases kvs with
      | nil => rfl
      | cons a b => exact rp.elim
    subst hk0
    obtain ⟨m0, hm0, rm0⟩ := s' p _ g'
    have e0 : upd H p (.dK []) = upd (upd H p (.dK [])) p (.dK []) := by
      funext b
      unfold upd
      split <;> rfl
    rw [e0]
    exact ⟨.ref p, _, .ref p, s'.mut (c := .dK (mergeD [] [])) (c0 := .dK []) upd_same rfl ⟨[], upd_same, True.intro⟩, en.trans (e'.trans (.mut g' upd_same rfl)), q⟩
  | cons k0 ks0 =>
    refine PE.we (pe_disp (h.pp pos) h.all h.len (by simp) h15) fun p hp => ?_
    have en : Ext X.K G H (put G p (.dK [])) (upd H p (.dK [])) := .new hp
    have sn : Sim X.K (put G p (.dK [])) (upd H p (.dK [])) := s.new hp ⟨[], upd_same, True.intro⟩
    refine tPairs_imp (trs_we _ _) (h.run ρ _ _ xq σ (upd H p (.dK [])) (hq p (s.free hp)) (rs.mono en.tup) sn (tk.step en)) fun ps H2 ⟨prs, G2, rp, s2, e2, g2, kvs, ek, hl, q⟩ => ?_
    subst ek
    obtain ⟨m, em, rm⟩ := repP_keys rp
    obtain ⟨m0, hm0, rm0⟩ := s2 p _ g2
    have hm00 : m0 = [] := by
      cases m0 with
      | nil => rfl
      | cons a b => exact rm0.elim
    subst hm00
    refine ⟨hm0, m, em, by rw [rm.length]; exact hl, ?_⟩
    have t3 : TupExt X.K H2 (upd H2 p (.dK (mergeK [] m))) := tup_mut hm0 rfl
    exact ⟨.ref p, _, .ref p, s2.mut (c := .dK (mergeD [] kvs)) (c0 := .dK []) hm0 rfl ⟨_, upd_same, (rm.mono t3).merge True.intro⟩, en.trans (e2.trans (.mut g2 hm0 rfl)), q⟩
end
end DL

namespace DL
open PySem PySem.Spec PyProof.Rows L2 HT
section
variable {prog : Program} {w : World} {A : Around} {E : Value → Shared → Prop} {s : Shared}
theorem back_places (n : Nat) : Builtin.Slice.slicePlaces ((n : Int) - 1) (-1) (-1) = n := by
  unfold Builtin.Slice.slicePlaces
  have h1 : ¬ ((-1 : Int) > 0) := by decide
  simp only [h1, if_false]
  rw [show (- -1 : Int) = 1 from rfl, Int.ediv_one]
  split <;> omega
theorem back_applied {sl : Addr} {vl vu vs : Value} {n : Nat} {Q : Int × Int × Nat → Shared → Prop} (hs : s.heap.IsSliceOf sl vl vu vs) (pl : IsPart vl none) (pu : IsPart vu none) (ps : IsPart vs (some (-1)))
    (h : Q ((n : Int) - 1, -1, n) s) : wpAny (model prog w) A (Builtin.Slice.sliceApplied (.ref sl) (pure (n : Int))) Q E s := by
  obtain ⟨os, hos, hcs, hds⟩ := id hs
  unfold Builtin.Slice.sliceApplied Builtin.Slice.sliceFields
  refine wpAny_bind (wpAny_bind (wpAny_field hos hds (x := vl) rfl (wpAny_bind (wpAny_field hos hds (x := vu) rfl (wpAny_bind (wpAny_field hos hds (x := vs) rfl (wpAny_pure ?_)))))))
  refine wpAny_bind (slicePart_ ps ?_)
  show wpAny _ _ (if ((-1 : Int) == 0) = true then _ else _) _ _ s
  rw [if_neg (by decide)]
  refine wpAny_bind (slicePart_ pl (wpAny_bind (slicePart_ pu (wpAny_bind (wpAny_pure ?_)))))
  show wpAny _ _ (pure ((n : Int) - 1, (-1 : Int), Builtin.Slice.slicePlaces ((n : Int) - 1) (-1) (-1))) _ _ s
  rw [back_places]
  exact wpAny_pure h
theorem back_pick (xs : Array Value) : ((List.range xs.size).filterMap fun (m : Nat) => xs[((xs.size : Int) - 1 + (m : Int) * (-1)).toNat]?).toArray = xs.toList.reverse.toArray := by
  have e0 : (List.range xs.size).map (fun (m : Nat) => ((xs.size : Int) - 1 + (m : Int) * (-1)).toNat) = (List.range xs.size).map fun k => xs.size - 1 - k := by
    apply List.map_congr_left
    intro m hm
    have := List.mem_range.mp hm
    omega
  have e : (List.range xs.size).filterMap (fun (m : Nat) => xs[((xs.size : Int) - 1 + (m : Int) * (-1)).toNat]?) = ((List.range xs.size).map fun k => xs.size - 1 - k).filterMap (xs[·]?) := by
    rw [← e0, List.filterMap_map]
    rfl
  rw [e, PySem.W.krv_range, List.filterMap_reverse, PySem.W.krv_all]
theorem getItem_back {t sl : Addr} {items : Array Value} {vl vu vs : Value} {Q : Value → Shared → Prop} (ht : IsTup s.heap t items) (hs : s.heap.IsSliceOf sl vl vu vs) (pl : IsPart vl none) (pu : IsPart vu none) (ps : IsPart vs (some (-1)))
    (h : Q (.ref s.heap.objs.size) { s with heap := s.heap.push { cls := .type "tuple", data := .seq items.toList.reverse.toArray } }) (hsz : items.size ≤ sizeLine) : wpAny (model prog w) A (getItem (.ref t) (.ref sl)) Q E s := by
  have hok : sizeOk (.seq items.toList.reverse.toArray) := by
    show items.toList.reverse.toArray.size ≤ sizeLine
    rw [List.size_toArray, List.length_reverse, Array.length_toList]
    exact hsz
  obtain ⟨os, hos, hcs, hds⟩ := id hs
  have hTs : s.TypeIs (.ref sl) "slice" := ⟨os, hos, hcs⟩
  unfold getItem
  try with_reducible refine wpAny_holding ?_
  first | refine wpAny_bind (wpAny_pure ?_) | skip
  refine wpAny_bind (wpAny_sequenceKey ht.typeIs (by decide) ?_)
  refine wpAny_bind (wpAny_callSpecial?_slot (name := Str.ofString "__getitem__") ht.typeIs PyProof.Rows.slot_tuple_getitem (wpAny_call_entry PyProof.Rows.slot_tuple_getitem ht.typeIs entry_tuple_getitem ?_ (args_tuple_getitem _ _)))
  show wpAny _ _ (Builtin.Tuple.tupleItemsOf (.ref t) >>= _) _ _ s
  refine wpAny_bind (tupleItemsOf_ ht ?_)
  refine wpAny_bind (wpAny_typeOf hTs ?_)
  rw [if_pos (by decide)]
  refine wpAny_bind (back_applied hs pl pu ps ?_)
  have hno : ¬ ((((items.size : Int) - 1) == 0 && (-1 : Int) == 1 && items.size == items.size) = true) := by simp
  show wpAny _ _ (if ((((items.size : Int) - 1) == 0 && (-1 : Int) == 1 && items.size == items.size)) = true then _ else _) _ _ s
  rw [if_neg hno, back_pick]
  first
    | exact wpAny_bind (m := Builtin.Tuple.tupleExact _) (wpAny_newObj_type (wpAny_pure ⟨_, rfl, wpAny_pure h⟩) hok)
    | exact wpAny_bind (m := Builtin.Tuple.tupleExact _) (wpAny_newObj_type (wpAny_bind (wpAny_pure (wpAny_pure ⟨_, rfl, wpAny_pure h⟩))) hok)
    | exact wpAny_bind (wpAny_bind (m := Builtin.Tuple.tupleExact _) (wpAny_newObj_type (wpAny_pure (wpAny_pure ⟨_, rfl, wpAny_pure h⟩)) hok))
    | exact wpAny_bind (wpAny_bind (m := Builtin.Tuple.tupleExact _) (wpAny_newObj_type (wpAny_pure ⟨_, rfl, wpAny_pure h⟩) hok))
end
section
variable {X : Cx}
/-- x[::-1], a list or a tuple -/
theorem pe_back {e : Expr} {te : TE} {k : Nat} {p1 p2 p3 pos : Pos} (he : PE X e te) : PE X (.Subscript e (.Slice none none (some (.UnaryOp .USub (.Constant (.int 1) k p1) p2)) p3) pos)
    (fun σ H Q => te σ H fun x H1 => (∃ a xs, x = .ref a ∧ SqL X.K H1 a xs ∧ ∀ p, H1 p = none → Q (.ref p) (upd H1 p (.lst xs.reverse))) ∨ ∃ a xs, x = .ref a ∧ SqT X.K H1 a xs ∧ ∀ p, H1 p = none → Q (.ref p) (upd H1 p (.tup xs.reverse))) := by
  refine ⟨fun pins s σ H Q I h => ?_⟩
  refine Subscript_ (thn (he.run pins s σ H _ I h) fun v s1 ⟨x, H1, I1, r1, q1⟩ => ?_)
  have hst : PO X (some (.UnaryOp .USub (.Constant (.int 1) k p1) p2)) (tPart (tUn (rU fun i => .int (-i)) (tC (.int 1)))) := po_some (pe_un un_neg pe_int)
  refine wpAny_Slice (thn (po_none.run pins s1 σ H1 (fun o H2 => o = none ∧ H2 = H1) I1 ⟨rfl, rfl⟩) fun vl s2 ⟨l, H2, I2, pl, el, e2⟩ => ?_)
  subst el e2
  refine thn (po_none.run pins s2 σ H2 (fun o H3 => o = none ∧ H3 = H2) I2 ⟨rfl, rfl⟩) fun vu s3 ⟨u, H3, I3, pu, eu, e3⟩ => ?_
  subst eu e3
  refine thn (hst.run pins s3 σ H3 (fun o H4 => o = some (-1) ∧ H4 = H3) I3 ⟨1, rfl, -1, rfl, rfl, rfl⟩) fun vs s4 ⟨o, H4, I4, ps, eo, e4⟩ => ?_
  subst eo e4
  have I5 : Inv X pins σ H4 { s4 with heap := s4.heap.push { cls := .type "slice", data := .fields #[vl, vu, vs] } } := I4.kept (t' := s4.toks) fun b ob q => Heap.get?_push_of_some _ q
  rcases q1 with ⟨a, xs, ex, hx, q⟩ | ⟨a, xs, ex, hx, q⟩
  · subst ex
    cases r1
    obtain ⟨its, r, ht, hz⟩ := I5.list hx
    have hlen := r.length
    show wpAny (model X.prog X.w) X.A (subscriptTail e (.Slice none none (some (.UnaryOp .USub (.Constant (.int 1) k p1) p2)) p3) (.ref a) (.ref s4.heap.objs.size)) (EP X pins σ Q) X.xe { s4 with heap := s4.heap.push { cls := .type "slice", data := .fields #[vl, vu, vs] } }
    refine tail_any (ops := [.ref a, .ref s4.heap.objs.size]) ht.isList.typeIs (PySem.slot_list_getitem.lookup) ?_ (by with_unfolding_all rfl)
    refine wpAny_getItem_list_slice ht.isList (Heap.IsSliceOf.new _ vl vu vs) pl pu ps (by decide) ?_ (by rw [List.size_toArray]; omega)
    rw [PySem.W.krv_pick]
    refine ⟨.ref _, _, I5.laid (t' := s4.toks) (o := .lst xs.reverse) (fun b ob q => Heap.get?_push_of_some _ q) (Nat.le_refl _) ?_, rfl, q _ (I5.hok.fresh (Nat.le_refl _))⟩
    exact ⟨by rw [List.length_reverse]; exact hz, _, 0, r.reverse, Heap.get?_push_size _ rfl⟩
  · subst ex
    cases r1
    obtain ⟨its, r, ht, hz⟩ := I5.tuple hx
    have hlen := r.length
    show wpAny (model X.prog X.w) X.A (subscriptTail e (.Slice none none (some (.UnaryOp .USub (.Constant (.int 1) k p1) p2)) p3) (.ref a) (.ref s4.heap.objs.size)) (EP X pins σ Q) X.xe { s4 with heap := s4.heap.push { cls := .type "slice", data := .fields #[vl, vu, vs] } }
    refine tail_any (ops := [.ref a, .ref s4.heap.objs.size]) ht.typeIs (PyProof.Rows.slot_tuple_getitem.lookup) ?_ (by with_unfolding_all rfl)
    refine getItem_back ht (Heap.IsSliceOf.new _ vl vu vs) pl pu ps ?_ (by rw [List.size_toArray]; omega)
    refine ⟨.ref _, _, I5.laid (t' := s4.toks) (o := .tup xs.reverse) (fun b ob q => Heap.get?_push_of_some _ q) (Nat.le_refl _) ?_, rfl, q _ (I5.hok.fresh (Nat.le_refl _))⟩
    exact ⟨by rw [List.length_reverse]; exact hz, _, r.reverse, IsTup.new _ _⟩
end
end DL

namespace DL
open PySem PySem.Spec PyProof.Rows L2
section
variable {X : Cx}
/-- what a list or a tuple holds -/
def seqD (d : D) (G : Sto) (k : List D → Prop) : Prop := match d with
  | .tup ds => k ds
  | .rl ds => k ds
  | .ref a => ∃ ds, G a = some (.lst ds) ∧ k ds
  | _ => False
theorem seq_ {K : PySem.W.Frag} {d : D} {G : Sto} {k : List D → Prop} {v : V} {H : Hp} (h : seqD d G k) (r : Rep K H v d) (s : Sim K G H) : ∃ p vs ds, v = .ref p ∧ (SqL K H p vs ∨ SqT K H p vs) ∧ Reps K H vs ds ∧ k ds := by
  cases d with
  | tup ds =>
    cases r with
    | tup h1 r1 => exact ⟨_, _, ds, rfl, .inr h1, r1, h⟩
  | rl ds =>
    cases r with
    | rl h1 r1 => exact ⟨_, _, ds, rfl, .inl (frz_sq h1), r1, h⟩
  | ref a =>
    cases r
    obtain ⟨ds, hg, q⟩ := h
    obtain ⟨vs, h1, h2⟩ := s a _ hg
    exact ⟨_, vs, ds, rfl, .inl (.of h1), h2, q⟩
  | _ => exact False.elim h
theorem Rep.flat {K : PySem.W.Frag} {H : Hp} {v : V} {d : D} (r : Rep K H v d) (h : flatD d = true) : flatV v = true := by
  cases r <;> first | rfl | cases h
theorem Reps.flat {K : PySem.W.Frag} {H : Hp} : ∀ {vs : List V} {ds : List D}, Reps K H vs ds → ds.all flatD = true → vs.all flatV = true
  | _, _, .nil, _ => rfl
  | _, _, .cons a b, h => by
    rw [List.all_cons, Bool.and_eq_true] at h ⊢
    exact ⟨a.flat h.1, Reps.flat b h.2⟩
theorem eqF_eq {K : PySem.W.Frag} {H : Hp} {v u : V} {d e : D} (r : Rep K H v d) (q : Rep K H u e) (h : flatD d = true) (h' : flatD e = true) : eqV v u = eqF d e := by
  cases r <;> first | (cases h; done) | (cases q <;> first | (cases h'; done) | rfl)
theorem memF_eq {K : PySem.W.Frag} {H : Hp} {v : V} {d : D} (q : Rep K H v d) (h' : flatD d = true) : ∀ {vs : List V} {ds : List D}, Reps K H vs ds → ds.all flatD = true → inV v vs = memF d ds
  | _, _, .nil, _ => rfl
  | _, _, .cons a b, h => by
    rw [List.all_cons, Bool.and_eq_true] at h
    unfold inV memF
    rw [List.any_cons, List.any_cons, eqF_eq a q h.1 h']
    have := memF_eq q h' b h.2
    unfold inV memF at this
    rw [this]
/-- a dict by value -/
theorem repKV_of {K : PySem.W.Frag} {H : Hp} : ∀ {m : List (Key × V)} {ks : List Key} {ds : List D}, m.map (·.1) = ks → Reps K H (m.map (·.2)) ds → RepKV K H m (ks.zip ds)
  | [], _, _, e, r => by
    subst e
    cases r
    exact True.intro
  | (k, v) :: m, _, _, e, r => by
    subst e
    cases r with
    | cons a b => exact ⟨rfl, a, repKV_of rfl b⟩
theorem dgetR_of {K : PySem.W.Frag} {H : Hp} {x y : D} {ks : List Key} {ds : List D} {k : Key} {u v : V} (hk : keyD y = some k) (ry : Rep K H u y) (rx : Rep K H v (.rd ks ds)) :
    ∃ a, v = .ref a ∧ ∃ o, DGet H a u o ∧ (∀ d, valR ks ds k = some d → ∃ w, o = some w ∧ Rep K H w d) ∧ (valR ks ds k = none → o = none) := by
  cases rx with
  | @rd a ob m _ _ h e r =>
    obtain rfl := keyD_rep hk ry
    have hv := (repKV_of e r).val k
    rw [← valR_eq] at hv
    exact ⟨a, rfl, valV m k, .inl ⟨m, k, .inr ⟨ob, h⟩, rfl, rfl⟩, hv.1, hv.2⟩
theorem dinR_of {K : PySem.W.Frag} {H : Hp} {y : D} {ks : List Key} {ds : List D} {k : Key} {u v : V} (hk : keyD y = some k) (ry : Rep K H u y) (rx : Rep K H v (.rd ks ds)) :
    ∃ a, v = .ref a ∧ ∃ o, DGet H a u o ∧ o.isSome = (valR ks ds k).isSome := by
  obtain ⟨a, rfl, o, h1, h2, h3⟩ := dgetR_of (x := .non) hk ry rx
  refine ⟨a, rfl, o, h1, ?_⟩
  cases e : valR ks ds k with
  | none => rw [h3 e]; rfl
  | some d =>
    obtain ⟨w, rfl, _⟩ := h2 d e
    rfl
def inD : DR2 := fun x y G Q => match x, y with
  | .str i, .str j => ∃ c, i = ⟨#[c]⟩ ∧ Q (.bl (decide (c ∈ j.cps.toList))) G
  | x, .tup ds => flatD x = true ∧ ds.all flatD = true ∧ Q (.bl (memF x ds)) G
  | x, .rl ds => flatD x = true ∧ ds.all flatD = true ∧ Q (.bl (memF x ds)) G
  | x, .rd ks ds => ∃ k, keyD x = some k ∧ Q (.bl ((valR ks ds k).isSome)) G
  | x, .ref a => (∃ ds, G a = some (.lst ds) ∧ flatD x = true ∧ ds.all flatD = true ∧ Q (.bl (memF x ds)) G) ∨ ∃ kvs k, G a = some (.dK kvs) ∧ keyD x = some k ∧ Q (.bl (valD kvs k).isSome) G
  | _, _ => False
def ninD : DR2 := fun x y G Q => match x, y with
  | .str i, .str j => ∃ c, i = ⟨#[c]⟩ ∧ Q (.bl (!decide (c ∈ j.cps.toList))) G
  | x, .tup ds => flatD x = true ∧ ds.all flatD = true ∧ Q (.bl (!memF x ds)) G
  | x, .rl ds => flatD x = true ∧ ds.all flatD = true ∧ Q (.bl (!memF x ds)) G
  | x, .rd ks ds => ∃ k, keyD x = some k ∧ Q (.bl (!(valR ks ds k).isSome)) G
  | x, .ref a => (∃ ds, G a = some (.lst ds) ∧ flatD x = true ∧ ds.all flatD = true ∧ Q (.bl (!memF x ds)) G) ∨ ∃ kvs k, G a = some (.dK kvs) ∧ keyD x = some k ∧ Q (.bl (!(valD kvs k).isSome)) G
  | _, _ => False
theorem op_inD' (hu : X.A.units + 64 < cLine) : OpD X (compareOp .In) inD := by
  intro x y G Q v u σ H h rx ry s
  unfold inD at h
  split at h
  · cases rx; cases ry
    obtain ⟨c, rfl, q⟩ := h
    exact OpR.wo op_in_sign ⟨c, _, rfl, rfl, Lift.here (.bl _) s q⟩
  · rename_i ds
    obtain ⟨f1, f2, q⟩ := h
    cases ry with
    | tup hs r =>
      refine OpR.wo op_in_seq ⟨_, _, rfl, .inr hs, rx.flat f1, r.flat f2, ?_⟩
      show Lift _ _ _ _ (.bl (inV v _)) _
      rw [memF_eq rx f1 r f2]
      exact Lift.here (.bl _) s q
  · obtain ⟨f1, f2, q⟩ := h
    cases ry with
    | rl hs r =>
      refine OpR.wo op_in_seq ⟨_, _, rfl, .inl (frz_sq hs), rx.flat f1, r.flat f2, ?_⟩
      show Lift _ _ _ _ (.bl (inV v _)) _
      rw [memF_eq rx f1 r f2]
      exact Lift.here (.bl _) s q
  · obtain ⟨k, hk, q⟩ := h
    obtain ⟨a, rfl, o, h1, h2⟩ := dinR_of hk rx ry
    refine OpR.wo (op_in_dict (by omega)) ⟨a, o, rfl, h1, ?_⟩
    rw [h2]
    exact Lift.here (.bl _) s q
  · rename_i a
    cases ry
    rcases h with ⟨ds, g, f1, f2, q⟩ | ⟨kvs, k, g, hk, q⟩
    · obtain ⟨vs, hs, r⟩ := s a _ g
      refine OpR.wo op_in_seq ⟨_, _, rfl, .inl (.of hs), rx.flat f1, r.flat f2, ?_⟩
      show Lift _ _ _ _ (.bl (inV v _)) _
      rw [memF_eq rx f1 r f2]
      exact Lift.here (.bl _) s q
    · obtain ⟨o, h1, h2⟩ := din_of s g hk rx
      refine OpR.wo (op_in_dict (by omega)) ⟨a, o, rfl, h1, ?_⟩
      rw [h2]
      exact Lift.here (.bl _) s q
  · exact h.elim
theorem op_ninD' (hu : X.A.units + 64 < cLine) : OpD X (compareOp .NotIn) ninD := by
  intro x y G Q v u σ H h rx ry s
  unfold ninD at h
  split at h
  · cases rx; cases ry
    obtain ⟨c, rfl, q⟩ := h
    exact OpR.wo op_notIn_sign ⟨c, _, rfl, rfl, Lift.here (.bl _) s q⟩
  · rename_i ds
    obtain ⟨f1, f2, q⟩ := h
    cases ry with
    | tup hs r =>
      refine OpR.wo op_notIn_seq ⟨_, _, rfl, .inr hs, rx.flat f1, r.flat f2, ?_⟩
      show Lift _ _ _ _ (.bl (!inV v _)) _
      rw [memF_eq rx f1 r f2]
      exact Lift.here (.bl _) s q
  · obtain ⟨f1, f2, q⟩ := h
    cases ry with
    | rl hs r =>
      refine OpR.wo op_notIn_seq ⟨_, _, rfl, .inl (frz_sq hs), rx.flat f1, r.flat f2, ?_⟩
      show Lift _ _ _ _ (.bl (!inV v _)) _
      rw [memF_eq rx f1 r f2]
      exact Lift.here (.bl _) s q
  · obtain ⟨k, hk, q⟩ := h
    obtain ⟨a, rfl, o, h1, h2⟩ := dinR_of hk rx ry
    refine OpR.wo (op_nin_dict (by omega)) ⟨a, o, rfl, h1, ?_⟩
    rw [h2]
    exact Lift.here (.bl _) s q
  · rename_i a
    cases ry
    rcases h with ⟨ds, g, f1, f2, q⟩ | ⟨kvs, k, g, hk, q⟩
    · obtain ⟨vs, hs, r⟩ := s a _ g
      refine OpR.wo op_notIn_seq ⟨_, _, rfl, .inl (.of hs), rx.flat f1, r.flat f2, ?_⟩
      show Lift _ _ _ _ (.bl (!inV v _)) _
      rw [memF_eq rx f1 r f2]
      exact Lift.here (.bl _) s q
    · obtain ⟨o, h1, h2⟩ := din_of s g hk rx
      refine OpR.wo (op_nin_dict (by omega)) ⟨a, o, rfl, h1, ?_⟩
      rw [h2]
      exact Lift.here (.bl _) s q
  · exact h.elim
/-- the rule of a comparison -/
def cmpD : CmpOp → DR2
  | .Eq => eqD | .NotEq => neD | .Lt => ltD | .LtE => leD | .Gt => gtD | .GtE => geD | .Is => isD | .IsNot => isnD | .In => inD | .NotIn => ninD
theorem op_cmpD (hu : X.A.units + 64 < cLine) (op : CmpOp) : OpD X (compareOp op) (cmpD op) := by
  cases op
  · exact op_eqD' hu
  · exact op_neD' hu
  · exact op_ltD
  · exact op_leD
  · exact op_gtD
  · exact op_geD
  · exact op_isD
  · exact op_isnD
  · exact op_inD' hu
  · exact op_ninD' hu
def binD : Operator → DR2
  | .Add => addD | .Sub => subD | .Mult => mulD | .FloorDiv => fdivD | .Mod => modD | .Pow => powD | .BitAnd => bandD | .BitXor => bxorD
  | _ => fun _ _ _ _ => False
theorem op_binD (op : Operator) : OpD X (binaryOp op) (binD op) := by
  cases op
  case Add => exact op_addD
  case Sub => exact op_subD
  case Mult => exact op_mulD
  case FloorDiv => exact op_fdivD
  case Mod => exact op_modD
  case Pow => exact op_powD
  case BitAnd => exact op_bandD
  case BitXor => exact op_bxorD
  all_goals exact fun _ _ _ _ _ _ _ _ h _ _ _ => h.elim
/-! subscripts -/
variable {a b e : Expr} {pos : Pos} {ta tb te : DE}
def ixD : DR2 := fun x y G Q => match x, y with
  | .tup ds, .int i => ∃ d, atI ds i = some d ∧ Q d G
  | .rl ds, .int i => ∃ d, atI ds i = some d ∧ Q d G
  | .rd ks ds, y => ∃ k d, keyD y = some k ∧ valR ks ds k = some d ∧ Q d G
  | .ref p, .int i => ∃ ds d, G p = some (.lst ds) ∧ atI ds i = some d ∧ Q d G
  | .str z, .int i => ∃ c, z.length ≤ sizeLine ∧ atI z.cps.toList i = some c ∧ Q (.str ⟨#[c]⟩) G
  | .ref p, .str k => ∃ kvs d, G p = some (.dK kvs) ∧ valD kvs (.inr k) = some d ∧ Q d G
  | _, _ => False
theorem Reps.atI {K : PySem.W.Frag} {H : Hp} {vs : List V} {ds : List D} {i : Int} {d : D} (r : Reps K H vs ds) (h : L2.atI ds i = some d) : ∃ v, L2.atI vs i = some v ∧ Rep K H v d := by
  unfold L2.atI at h ⊢
  rw [r.length]
  cases e : ixN ds.length i with
  | none => rw [e] at h; cases h
  | some j =>
    rw [e] at h
    exact r.get h
theorem qe_ix (hu : X.A.units + 64 < cLine) (ha : QE X a ta) (hb : QE X b tb) (hs : PlainIx b) : QE X (.Subscript a b pos) (dOp ixD ta tb) := by
  refine ⟨fun ρ G Q xq σ H h rs s tk => ?_⟩
  refine PE.we (pe_ix (ix_seq.or (ix_dict (by omega))) pe_max pe_max hs) ?_
  refine two_ ha hb h rs s tk fun x y v u G2 H2 q rx ry s2 e2 => ?_
  unfold ixD at q
  split at q
  · obtain ⟨d, h1, q⟩ := q
    cases ry
    cases rx with
    | tup hs r1 =>
      obtain ⟨w, h2, r2⟩ := r1.atI h1
      exact .inl (.inr (.inl ⟨_, _, _, w, rfl, rfl, hs, h2, d, G2, r2, s2, e2, q⟩))
  · obtain ⟨d, h1, q⟩ := q
    cases ry
    cases rx with
    | rl hs r1 =>
      obtain ⟨w, h2, r2⟩ := r1.atI h1
      exact .inl (.inl ⟨_, _, _, w, rfl, rfl, frz_sq hs, h2, d, G2, r2, s2, e2, q⟩)
  · obtain ⟨k, d, hk, h1, q⟩ := q
    obtain ⟨a, rfl, o, g1, g2, _⟩ := dgetR_of (x := .non) hk ry rx
    obtain ⟨w, rfl, rw'⟩ := g2 d h1
    exact .inr ⟨a, w, rfl, g1, d, G2, rw', s2, e2, q⟩
  · cases rx; cases ry
    obtain ⟨ds, d, hg, h1, q⟩ := q
    obtain ⟨vs, h3, r1⟩ := s2 _ _ hg
    obtain ⟨w, h2, r2⟩ := r1.atI h1
    exact .inl (.inl ⟨_, _, _, w, rfl, rfl, .of h3, h2, d, G2, r2, s2, e2, q⟩)
  · cases rx; cases ry
    obtain ⟨c, hz, h1, q⟩ := q
    exact .inl (.inr (.inr ⟨_, _, c, rfl, rfl, hz, h1, _, G2, .str _, s2, e2, q⟩))
  · cases rx
    obtain ⟨kvs, d, hg, h1, q⟩ := q
    obtain ⟨w, h2, r2⟩ := (dget_of s2 hg rfl ry).1 d h1
    exact .inr ⟨_, w, rfl, h2, d, G2, r2, s2, e2, q⟩
  · exact q.elim
/-- a dict's value at an int or a text -/
def dixD : DR2 := fun x y G Q => match x with
  | .ref p => ∃ kvs k d, G p = some (.dK kvs) ∧ keyD y = some k ∧ valD kvs k = some d ∧ Q d G
  | _ => False
theorem qe_dix (hu : X.A.units + 64 < cLine) (ha : QE X a ta) (hb : QE X b tb) (hs : PlainIx b) : QE X (.Subscript a b pos) (dOp dixD ta tb) := by
  refine ⟨fun ρ G Q xq σ H h rs s tk => ?_⟩
  refine PE.we (pe_ix (ix_dict (by omega)) pe_max pe_max hs) ?_
  refine two_ ha hb h rs s tk fun x y v u G2 H2 q rx ry s2 e2 => ?_
  unfold dixD at q
  split at q
  · cases rx
    obtain ⟨kvs, k, d, hg, hk, h1, q⟩ := q
    obtain ⟨w, h2, r2⟩ := (dget_of s2 hg hk ry).1 d h1
    exact ⟨_, w, rfl, h2, d, G2, r2, s2, e2, q⟩
  · exact q.elim
/-! slices -/
abbrev DO := Ev → Sto → (Option Int → Sto → Prop) → XQ → Prop
def WPt (X : Cx) (e : Option Expr) : TO := fun σ H Q => ∀ pins s, Inv X pins σ H s → wpAny (model X.prog X.w) X.A (evalPart e X.env) (fun u s' => ∃ o H', Inv X pins σ H' s' ∧ IsPart u o ∧ Q o H') X.xe s
theorem po_max {e : Option Expr} : PO X e (WPt X e) := ⟨fun pins s σ H Q I h => h pins s I⟩
theorem PO.wp {e : Option Expr} {t : TO} {σ : L2.St} {H : Hp} {Q : Option Int → Hp → Prop} (h : PO X e t) (q : t σ H Q) : WPt X e σ H Q := fun pins s I => h.run pins s σ H Q I q
theorem WPt.imp {e : Option Expr} {σ : L2.St} {H : Hp} {Q Q' : Option Int → Hp → Prop} (h : WPt X e σ H Q) (i : ∀ v H', Q v H' → Q' v H') : WPt X e σ H Q' := fun pins s I => thn (h pins s I) fun _ _ ⟨o, H', I', p, q⟩ => ⟨o, H', I', p, i _ _ q⟩
structure QO (X : Cx) (e : Option Expr) (t : DO) : Prop where
  run : ∀ ρ G Q xq σ H, t ρ G Q xq → RepS X.K H σ ρ → Sim X.K G H → Tk X σ G H xq → WPt X e σ H fun o H' => ∃ G', Sim X.K G' H' ∧ Ext X.K G H G' H' ∧ Q o G'
def dNoPart : DO := fun _ G Q _ => Q none G
def asI (Q : Option Int → Sto → Prop) : DQ := fun d G => match d with
  | .int i => Q (some i) G
  | _ => False
def dPart (t : DE) : DO := fun ρ G Q xq => t ρ G (asI Q) xq
theorem qo_none : QO X none dNoPart := ⟨fun ρ G Q xq σ H h rs s tk => PO.wp po_none ⟨G, s, .refl, h⟩⟩
theorem qo_some (he : QE X e te) : QO X (some e) (dPart te) := by
  refine ⟨fun ρ G Q xq σ H h rs s tk => ?_⟩
  refine PO.wp (po_some pe_max) ((he.run ρ G _ xq σ H h rs s tk).imp fun v H1 ⟨x, G1, rx, s1, e1, q1⟩ => ?_)
  cases x with
  | int i =>
    cases rx
    exact ⟨i, rfl, G1, s1, e1, q1⟩
  | _ => exact False.elim q1
def cutD (xs : List D) (lo hi : Option Int) : List D := (xs.drop (HT.sIx xs.length 0 lo)).take (HT.sIx xs.length xs.length hi - HT.sIx xs.length 0 lo)
theorem Reps.cut {K : PySem.W.Frag} {H : Hp} {vs : List V} {ds : List D} (r : Reps K H vs ds) (lo hi : Option Int) : Reps K H (cutV vs lo hi) (cutD ds lo hi) := by
  unfold cutV cutD
  rw [r.length]
  exact (r.drop _).take _
theorem cut_whole {xs : List D} {lo hi : Option Int} (h : HT.sIx xs.length 0 lo = 0 ∧ HT.sIx xs.length xs.length hi = xs.length) : cutD xs lo hi = xs := by
  unfold cutD
  rw [h.1, h.2, List.drop_zero, Nat.sub_zero, List.take_length]
def slD (x : D) (lo hi : Option Int) (G : Sto) (Q : DQ) : Prop := match x with
  | .tup ds => Q (.tup (cutD ds lo hi)) G
  | .ref p => ∃ ds, G p = some (.lst ds) ∧ ∀ p, G p = none → Q (.ref p) (put G p (.lst (cutD ds lo hi)))
  | .sc ds => ∀ p, G p = none → Q (.ref p) (put G p (.lst (cutD ds lo hi)))
  | .str z => z.length ≤ sizeLine ∧ Q (.str (cutS z lo hi)) G
  | _ => False
def dSl (te : DE) (tl th : DO) : DE := fun ρ G Q xq => te ρ G (fun x G1 => tl ρ G1 (fun l G2 => th ρ G2 (fun u G3 => slD x l u G3 Q) xq) xq) xq
theorem qe_sl {lo hi : Option Expr} {tl th : DO} {p2 : Pos} (he : QE X e te) (hl : QO X lo tl) (hh : QO X hi th) : QE X (.Subscript e (.Slice lo hi none p2) pos) (dSl te tl th) := by
  refine ⟨fun ρ G Q xq σ H h rs s tk => ?_⟩
  refine PE.we (pe_slice (SlR.or sl_list (SlR.or sl_tupA sl_str)) pe_max po_max po_max) ((he.run ρ G _ xq σ H h rs s tk).imp fun v H1 ⟨x, G1, rx, s1, e1, q1⟩ => ?_)
  refine (hl.run ρ G1 _ xq σ H1 q1 (rs.mono e1.tup) s1 (tk.step e1)).imp fun l H2 ⟨G2, s2, e2, q2⟩ => ?_
  refine (hh.run ρ G2 _ xq σ H2 q2 (rs.mono (e1.trans e2).tup) s2 (tk.step (e1.trans e2))).imp fun u H3 ⟨G3, s3, e3, q3⟩ => ?_
  have e13 := (e1.trans e2).trans e3
  have rx3 := (rx.mono e2.tup).mono e3.tup
  unfold slD at q3
  split at q3
  · cases rx3 with
    | tup hs r1 =>
      refine .inr (.inl ⟨_, _, rfl, hs, fun w => ?_, fun _ p hp => Lift.back e13 _ _ (lift_tup (r1.cut l u) s3 q3 hp)⟩)
      rw [r1.length] at w
      rw [cut_whole w] at q3
      exact ⟨_, G3, .tup hs r1, s3, e13, q3⟩
  · cases rx3
    obtain ⟨ds, hg, q⟩ := q3
    obtain ⟨vs, h3, r1⟩ := s3 _ _ hg
    exact .inl ⟨_, _, rfl, .of h3, fun p hp => Lift.back e13 _ _ (lift_lst (r1.cut l u) s3 q hp)⟩
  · cases rx3 with
    | sc h3 r1 => exact .inl ⟨_, _, rfl, h3.sq, fun p hp => Lift.back e13 _ _ (lift_lst (r1.cut l u) s3 q3 hp)⟩
  · cases rx3
    exact .inr (.inr ⟨_, rfl, q3.1, _, G3, .str _, s3, e13, q3.2⟩)
  · exact q3.elim
/-- a slice, a list's by value -/
def slV (x : D) (lo hi : Option Int) (G : Sto) (Q : DQ) : Prop := match x with
  | .tup ds => Q (.tup (cutD ds lo hi)) G
  | .ref p => ∃ ds, G p = some (.lst ds) ∧ Q (.rl (cutD ds lo hi)) G
  | .rl ds => Q (.rl (cutD ds lo hi)) G
  | .sc ds => Q (.rl (cutD ds lo hi)) G
  | .str z => z.length ≤ sizeLine ∧ Q (.str (cutS z lo hi)) G
  | _ => False
def dSlV (te : DE) (tl th : DO) : DE := fun ρ G Q xq => te ρ G (fun x G1 => tl ρ G1 (fun l G2 => th ρ G2 (fun u G3 => slV x l u G3 Q) xq) xq) xq
theorem WE.lockIf {e : Expr} {σ : L2.St} {H : Hp} {Q : VK} (h : WE X e σ H fun v H' => Q v H' ∨ ∃ p vs, v = .ref p ∧ H' p = some (.lst vs) ∧ ∀ od, Q (.ref p) (upd H' p (.frz od (.lst vs)))) : WE X e σ H Q := fun pins s I =>
  thn (h pins s I) fun u s' ⟨x, H', I', r, z⟩ => by
    rcases z with q | ⟨p, vs, ex, hp, q⟩
    · exact ⟨x, H', I', r, q⟩
    · subst ex
      obtain ⟨od, I2⟩ := I'.lock hp True.intro
      exact ⟨.ref p, _, I2, r, q od⟩
theorem qe_slV {lo hi : Option Expr} {tl th : DO} {p2 : Pos} (he : QE X e te) (hl : QO X lo tl) (hh : QO X hi th) : QE X (.Subscript e (.Slice lo hi none p2) pos) (dSlV te tl th) := by
  refine ⟨fun ρ G Q xq σ H h rs s tk => WE.lockIf ?_⟩
  refine PE.we (pe_slice (SlR.or sl_list (SlR.or sl_tupA sl_str)) pe_max po_max po_max) ((he.run ρ G _ xq σ H h rs s tk).imp fun v H1 ⟨x, G1, rx, s1, e1, q1⟩ => ?_)
  refine (hl.run ρ G1 _ xq σ H1 q1 (rs.mono e1.tup) s1 (tk.step e1)).imp fun l H2 ⟨G2, s2, e2, q2⟩ => ?_
  refine (hh.run ρ G2 _ xq σ H2 q2 (rs.mono (e1.trans e2).tup) s2 (tk.step (e1.trans e2))).imp fun u H3 ⟨G3, s3, e3, q3⟩ => ?_
  have e13 := (e1.trans e2).trans e3
  have rx3 := (rx.mono e2.tup).mono e3.tup
  have fin : ∀ {a : Addr} {vs : List V} {ds : List D}, SqL X.K H3 a vs → Reps X.K H3 vs ds → Q (.rl (cutD ds l u)) G3 → ∀ p, H3 p = none → (Lift X.K G H Q (.ref p) (upd H3 p (.lst (cutV vs l u))) ∨ ∃ p' vs', V.ref p = .ref p' ∧ upd H3 p (.lst (cutV vs l u)) p' = some (.lst vs') ∧ ∀ od, Lift X.K G H Q (.ref p') (upd (upd H3 p (.lst (cutV vs l u))) p' (.frz od (.lst vs')))) := fun {a vs ds} _ r q p hp => by
    refine .inr ⟨p, _, rfl, upd_same, fun od => ?_⟩
    rw [upd_upd]
    exact Lift.back e13 _ _ (lift_rl (r.cut l u) s3 q hp)
  unfold slV at q3
  split at q3
  · cases rx3 with
    | tup hs r1 =>
      refine .inr (.inl ⟨_, _, rfl, hs, fun w => .inl ?_, fun _ p hp => .inl (Lift.back e13 _ _ (lift_tup (r1.cut l u) s3 q3 hp))⟩)
      rw [r1.length] at w
      rw [cut_whole w] at q3
      exact ⟨_, G3, .tup hs r1, s3, e13, q3⟩
  · cases rx3
    obtain ⟨ds, hg, q⟩ := q3
    obtain ⟨vs, h3, r1⟩ := s3 _ _ hg
    exact .inl ⟨_, _, rfl, .of h3, fin (.of h3) r1 q⟩
  · cases rx3 with
    | rl h3 r1 => exact .inl ⟨_, _, rfl, frz_sq h3, fin (frz_sq h3) r1 q3⟩
  · cases rx3 with
    | sc h3 r1 => exact .inl ⟨_, _, rfl, h3.sq, fin h3.sq r1 q3⟩
  · cases rx3
    exact .inr (.inr ⟨_, rfl, q3.1, .inl ⟨_, G3, .str _, s3, e13, q3.2⟩⟩)
  · exact q3.elim
/-- xs[::-1] of a list -/
def revD : DR1 := fun x G Q => match x with
  | .ref p => ∃ ds, G p = some (.lst ds) ∧ ∀ p, G p = none → Q (.ref p) (put G p (.lst ds.reverse))
  | .tup ds => Q (.tup ds.reverse) G
  | _ => False
theorem qe_rev {k : Nat} {p1 p2 p3 : Pos} (he : QE X e te) : QE X (.Subscript e (.Slice none none (some (.UnaryOp .USub (.Constant (.int 1) k p1) p2)) p3) pos) (dUn revD te) := by
  refine ⟨fun ρ G Q xq σ H h rs s tk => ?_⟩
  refine PE.we (pe_back pe_max) ((he.run ρ G _ xq σ H h rs s tk).imp fun v H1 ⟨x, G1, rx, s1, e1, q1⟩ => ?_)
  have q1 : revD x G1 Q := q1
  unfold revD at q1
  split at q1
  · cases rx
    obtain ⟨ds, hg, q⟩ := q1
    obtain ⟨vs, h3, r1⟩ := s1 _ _ hg
    exact .inl ⟨_, _, rfl, .of h3, fun p hp => Lift.back e1 _ _ (lift_lst r1.reverse s1 q hp)⟩
  · cases rx with
    | tup h3 r1 => exact .inr ⟨_, _, rfl, h3, fun p hp => Lift.back e1 _ _ (lift_tup r1.reverse s1 q1 hp)⟩
  · exact q1.elim
def revV : DR1 := fun x G Q => match x with
  | .tup ds => Q (.tup ds.reverse) G
  | x => lstD x G fun ds => Q (.rl ds.reverse) G
theorem qe_revV {k : Nat} {p1 p2 p3 : Pos} (he : QE X e te) : QE X (.Subscript e (.Slice none none (some (.UnaryOp .USub (.Constant (.int 1) k p1) p2)) p3) pos) (dUn revV te) := by
  refine ⟨fun ρ G Q xq σ H h rs s tk => WE.lockIf ?_⟩
  refine PE.we (pe_back pe_max) ((he.run ρ G _ xq σ H h rs s tk).imp fun v H1 ⟨x, G1, rx, s1, e1, q1⟩ => ?_)
  have q1 : revV x G1 Q := q1
  unfold revV at q1
  split at q1
  · cases rx with
    | tup h3 r1 => exact .inr ⟨_, _, rfl, h3, fun p hp => .inl (Lift.back e1 _ _ (lift_tup r1.reverse s1 q1 hp))⟩
  · obtain ⟨a, vs, ds, rfl, h3, r1, q⟩ := lst_ q1 rx s1
    refine .inl ⟨_, _, rfl, h3, fun p hp => .inr ⟨p, _, rfl, upd_same, fun od => ?_⟩⟩
    rw [upd_upd]
    exact Lift.back e1 _ _ (lift_rl r1.reverse s1 q hp)
end
end DL

namespace DL
open PySem PySem.Spec PyProof.Rows L2
section
variable {X : Cx}
/-! built-ins by name -/
inductive Bl where
  | len | abs | int | str | tuple | list | sum | max | min | all | any | isi | sorted
  deriving DecidableEq
def Bl.name : Bl → Str
  | .len => "len" | .abs => "abs" | .int => "int" | .str => "str" | .tuple => "tuple" | .list => "list" | .sum => "sum" | .max => "max" | .min => "min" | .all => "all" | .any => "any" | .isi => "isinstance" | .sorted => "sorted"
def Bl.val : Bl → Value
  | .len => .builtin "len" | .abs => .builtin "abs" | .int => .type "int" | .str => .type "str" | .tuple => .type "tuple" | .list => .type "list" | .sum => .builtin "sum" | .max => .builtin "max" | .min => .builtin "min" | .all => .builtin "all" | .any => .builtin "any" | .isi => .builtin "isinstance" | .sorted => .builtin "sorted"
theorem Bl.boot (b : Bl) : bootBuiltins b.name = some b.val := by
  cases b <;> decide +kernel
theorem Bl.nn (b : Bl) : b.name ≠ "__name__" := by
  cases b <;> decide
theorem Bl.nd (b : Bl) : (b.name == ("__debug__" : Str)) = false := by
  cases b <;> decide
abbrev DRA := List D → Sto → DQ → Prop
def WC (X : Cx) (f : Value) (vs : List V) (σ : L2.St) (H : Hp) (R : VK) : Prop :=
  ∀ pins s us, Inv X pins σ H s → Vals vs us → wpAny (model X.prog X.w) X.A (call f us) (EP X pins σ R) X.xe s
def CallD (X : Cx) (f : Value) (r : DRA) : Prop := ∀ ds G Q vs σ H, r ds G Q → Reps X.K H vs ds → Sim X.K G H → WC X f vs σ H (Lift X.K G H Q)
theorem CallR.wc {f : Value} {r : List V → Hp → VK → Prop} {vs : List V} {σ : L2.St} {H : Hp} {R : VK} (h : CallR X f r) (q : r vs H R) : WC X f vs σ H R := fun pins s us I rv => h pins s σ H vs us R I rv q
theorem call_max_ {f : Value} : CallR X f (fun vs H R => ∀ σ, WC X f vs σ H R) := fun pins s σ H xs us Q I r h => h σ pins s us I r
theorem WC.imp {f : Value} {vs : List V} {σ : L2.St} {H : Hp} {R R' : VK} (h : WC X f vs σ H R) (i : ∀ v H', R v H' → R' v H') : WC X f vs σ H R' :=
  fun pins s us I rv => thn (h pins s us I rv) fun _ _ ⟨v, H', I', r, q⟩ => ⟨v, H', I', r, i _ _ q⟩
def dCall (r : DRA) (t : DA) : DE := fun ρ G Q xq => t ρ G (fun ds G1 => r ds G1 Q) xq
variable {e : Expr} {es : List Expr} {tas : DA} {p pos : Pos}
theorem qe_blt {r : DRA} {b : Bl} (hr : CallD X b.val r) (hg : Gl X b.name) (hm : X.mg b.name = none) (ha : QA X (e :: es) tas) (he : starEach (e :: es) X.env = (false, eval e X.env) :: starEach es X.env) (hpl : (backTo pos (starEach es X.env)).any (·.1) = false) :
    QE X (.Call (.Name b.name p) (e :: es) [] pos) (dCall r tas) := by
  refine ⟨fun ρ G Q xq σ H h rs s tk => ?_⟩
  have main : tCB (fun vs H R => ∀ σ, WC X b.val vs σ H R) (WA X (e :: es)) σ H (Lift X.K G H Q) :=
    (ha.run ρ G _ xq σ H h rs s tk).imp fun vs H1 ⟨ds, G1, r1, s1, e1, q1⟩ => fun σ' => (hr ds G1 Q vs σ' H1 q1 r1 s1).imp (Lift.back e1)
  cases hv : b.val with
  | builtin id =>
    rw [hv] at main
    exact PE.we (pe_callB (id := id) call_max_ hg hm (by rw [b.boot, hv]) pa_max b.nn b.nd he hpl) main
  | type T =>
    rw [hv] at main
    exact PE.we (pe_callTy (T := T) call_max_ hg hm (by rw [b.boot, hv]) pa_max b.nn b.nd he hpl) main
  | _ => cases b <;> cases hv
theorem Reps.one {K : PySem.W.Frag} {H : Hp} {vs : List V} {d : D} (h : Reps K H vs [d]) : ∃ v, vs = [v] ∧ Rep K H v d := by
  cases h with
  | cons a b => cases b; exact ⟨_, rfl, a⟩
theorem Reps.two {K : PySem.W.Frag} {H : Hp} {vs : List V} {d e : D} (h : Reps K H vs [d, e]) : ∃ v u, vs = [v, u] ∧ Rep K H v d ∧ Rep K H u e := by
  cases h with
  | cons a b =>
    obtain ⟨u, rfl, r⟩ := b.one
    exact ⟨_, u, rfl, a, r⟩
theorem Reps.ints {K : PySem.W.Frag} {H : Hp} : ∀ {vs : List V} {ns : List Int}, Reps K H vs (ns.map D.int) → vs = ns.map V.int
  | _, [], h => by cases h; rfl
  | _, n :: ns, h => by
    cases h with
    | cons a b => cases a; rw [Reps.ints b]; rfl
theorem Reps.bls {K : PySem.W.Frag} {H : Hp} : ∀ {vs : List V} {ns : List Bool}, Reps K H vs (ns.map D.bl) → vs = ns.map V.bl
  | _, [], h => by cases h; rfl
  | _, n :: ns, h => by
    cases h with
    | cons a b => cases a; rw [Reps.bls b]; rfl
theorem Reps.strs {K : PySem.W.Frag} {H : Hp} : ∀ {vs : List V} {ns : List Str}, Reps K H vs (ns.map D.str) → vs = ns.map V.str
  | _, [], h => by cases h; rfl
  | _, n :: ns, h => by
    cases h with
    | cons a b => cases a; rw [Reps.strs b]; rfl
theorem reps_ints {K : PySem.W.Frag} {H : Hp} : ∀ ns : List Int, Reps K H (ns.map V.int) (ns.map D.int)
  | [] => .nil
  | n :: ns => .cons (.int n) (reps_ints ns)
theorem reps_strs {K : PySem.W.Frag} {H : Hp} : ∀ ns : List Str, Reps K H (ns.map V.str) (ns.map D.str)
  | [] => .nil
  | n :: ns => .cons (.str n) (reps_strs ns)
/-- the type's name -/
def tyD (d : D) (G : Sto) (k : String → Prop) : Prop := match d with
  | .non => k "NoneType" | .bl _ => k "bool" | .int _ => k "int" | .str _ => k "str" | .tup _ => k "tuple"
  | .ref a => ((∃ ds, G a = some (.lst ds)) ∧ k "list") ∨ ((∃ kvs, G a = some (.dK kvs)) ∧ k "dict") ∨ ((∃ kvs, G a = some (.dT kvs)) ∧ k "dict")
  | .rl _ => k "list" | .rd _ _ => k "dict"
  | .ty _ => False
  | .sc _ => False
theorem ty_ {K : PySem.W.Frag} {d : D} {G : Sto} {k : String → Prop} {v : V} {H : Hp} (h : tyD d G k) (r : Rep K H v d) (s : Sim K G H) : ∃ n, TyX K H v (.type n) ∧ k n := by
  cases d with
  | non => cases r; exact ⟨_, .base .non, h⟩
  | bl b => cases r; exact ⟨_, .base (.bl b), h⟩
  | int i => cases r; exact ⟨_, .base (.int i), h⟩
  | str x => cases r; exact ⟨_, .base (.str x), h⟩
  | tup ds =>
    cases r with
    | tup h1 r1 =>
      rcases h1 with (h1 | ⟨o, h1⟩) | ⟨o, its, n, h1, h2, _⟩
      · exact ⟨_, .base (.tup h1), h⟩
      · exact ⟨_, .fTuple h1, h⟩
      · exact ⟨_, .kTuple h1 h2, h⟩
  | ref a =>
    cases r
    rcases h with ⟨⟨ds, g⟩, q⟩ | ⟨⟨ds, g⟩, q⟩ | ⟨⟨ds, g⟩, q⟩
    · obtain ⟨vs, h1, _⟩ := s a _ g
      exact ⟨_, .base (.lst h1), q⟩
    · obtain ⟨vs, h1, _⟩ := s a _ g
      exact ⟨_, .base (.dK h1), q⟩
    · obtain ⟨vs, h1, _⟩ := s a _ g
      exact ⟨_, .base (.dT h1), q⟩
  | ty n => exact False.elim h
  | rl n =>
    cases r with
    | rl h1 r1 => exact ⟨_, .base (.frz h1), h⟩
  | rd n m =>
    cases r with
    | rd h1 e r1 => exact ⟨_, .fDict h1, h⟩
  | sc n => exact False.elim h
def bltD : Bl → DRA
  | .len => fun ds G Q => match ds with
    | [.str z] => z.length ≤ sizeLine ∧ Q (.int z.length) G
    | [x] => seqD x G fun ys => Q (.int ys.length) G
    | _ => False
  | .abs => fun ds G Q => match ds with
    | [.int i] => Q (.int (if i < 0 then -i else i)) G
    | _ => False
  | .int => fun ds G Q => match ds with
    | [.int i] => Q (.int i) G
    | [.bl k] => Q (.int (if k then 1 else 0)) G
    | _ => False
  | .str => fun ds G Q => match ds with
    | [.int i] => i.natAbs.log2 < 1920 ∧ Q (.str (toString i)) G
    | _ => False
  | .tuple => fun ds G Q => match ds with
    | [.tup ys] => Q (.tup ys) G
    | [x] => lstD x G fun ys => Q (.tup ys) G
    | _ => False
  | .list => fun ds G Q => match ds with
    | [x] => seqD x G fun ys => ∀ p, G p = none → Q (.ref p) (put G p (.lst ys))
    | _ => False
  | .sum => fun ds G Q => match ds with
    | [x] => lstD x G fun ys => ∃ ns : List Int, ys = ns.map D.int ∧ Q (.int ns.sum) G
    | _ => False
  | .max => fun ds G Q => match ds with
    | [.int i, .int j] => Q (.int (if j > i then j else i)) G
    | [x] => lstD x G fun ys => ∃ ns : List Int, ys = ns.map D.int ∧ 0 < ns.length ∧ ∀ m, m ∈ ns → (∀ y, y ∈ ns → y ≤ m) → Q (.int m) G
    | _ => False
  | .min => fun ds G Q => match ds with
    | [.int i, .int j] => Q (.int (if j < i then j else i)) G
    | [x] => lstD x G fun ys => ∃ ns : List Int, ys = ns.map D.int ∧ 0 < ns.length ∧ ∀ m, m ∈ ns → (∀ y, y ∈ ns → m ≤ y) → Q (.int m) G
    | _ => False
  | .all => fun ds G Q => match ds with
    | [x] => lstD x G fun ys => ∃ bs : List Bool, ys = bs.map D.bl ∧ Q (.bl (bs.all id)) G
    | _ => False
  | .any => fun ds G Q => match ds with
    | [x] => lstD x G fun ys => ∃ bs : List Bool, ys = bs.map D.bl ∧ Q (.bl (bs.any id)) G
    | _ => False
  | .isi => fun ds G Q => match ds with
    | [x, .ty n] => tyD x G fun t => ∃ b, kitB t n = some b ∧ Q (.bl b) G
    | _ => False
  | .sorted => fun ds G Q => match ds with
    | [x] => lstD x G fun ys => (∃ ns : List Int, ys = ns.map D.int ∧ ns.length < 64 ∧ ∀ (ns' : List Int) (p : Addr), ns'.Perm ns → ns'.Pairwise (· ≤ ·) → G p = none → Q (.ref p) (put G p (.lst (ns'.map D.int)))) ∨
        ∃ ns : List Str, ys = ns.map D.str ∧ ns.length < 64 ∧ ∀ (ns' : List Str) (p : Addr), ns'.Perm ns → sortedS ns' = true → G p = none → Q (.ref p) (put G p (.lst (ns'.map D.str)))
    | _ => False
theorem blt_ok (hc : X.calm = true) (b : Bl) : CallD X b.val (bltD b) := by
  cases b
  case len =>
    intro ds G Q vs σ H h r s
    simp only [bltD] at h
    split at h
    · obtain ⟨v, rfl, r1⟩ := r.one
      cases r1
      exact CallR.wc call_len_str ⟨_, rfl, h.1, Lift.here (.int _) s h.2⟩
    · obtain ⟨v, rfl, r1⟩ := r.one
      obtain ⟨p, us, ys, rfl, hs, r2, q⟩ := seq_ h r1 s
      exact CallR.wc call_len_seq ⟨p, us, rfl, hs, by rw [r2.length]; exact Lift.here (.int _) s q⟩
    · exact h.elim
  case abs =>
    intro ds G Q vs σ H h r s
    simp only [bltD] at h
    split at h
    · obtain ⟨v, rfl, r1⟩ := r.one
      cases r1
      exact CallR.wc call_abs ⟨_, rfl, Lift.here (.int _) s h⟩
    · exact h.elim
  case int =>
    intro ds G Q vs σ H h r s
    simp only [bltD] at h
    split at h
    · obtain ⟨v, rfl, r1⟩ := r.one
      cases r1
      exact CallR.wc call_int1 (.inl ⟨_, rfl, Lift.here (.int _) s h⟩)
    · obtain ⟨v, rfl, r1⟩ := r.one
      cases r1
      exact CallR.wc call_int1 (.inr ⟨_, rfl, Lift.here (.int _) s h⟩)
    · exact h.elim
  case str =>
    intro ds G Q vs σ H h r s
    simp only [bltD] at h
    split at h
    · obtain ⟨v, rfl, r1⟩ := r.one
      cases r1
      exact CallR.wc call_str_int ⟨_, rfl, h.1, Lift.here (.str _) s h.2⟩
    · exact h.elim
  case tuple =>
    intro ds G Q vs σ H h r s
    simp only [bltD] at h
    split at h
    · obtain ⟨v, rfl, r1⟩ := r.one
      cases r1 with
      | tup h1 r2 => exact CallR.wc call_tuple_of ⟨_, _, rfl, .inr ⟨h1, Lift.here (.tup h1 r2) s h⟩⟩
    · obtain ⟨v, rfl, r1⟩ := r.one
      obtain ⟨p, us, ys, rfl, hs, r2, q⟩ := lst_ h r1 s
      exact CallR.wc call_tuple_of ⟨p, us, rfl, .inl ⟨hs, fun l hl => lift_tup r2 s q hl⟩⟩
    · exact h.elim
  case list =>
    intro ds G Q vs σ H h r s
    simp only [bltD] at h
    split at h
    · obtain ⟨v, rfl, r1⟩ := r.one
      obtain ⟨p, us, ys, rfl, hs, r2, q⟩ := seq_ h r1 s
      exact CallR.wc call_list_of ⟨p, us, rfl, hs, fun l hl => lift_lst r2 s q hl⟩
    · exact h.elim
  case sum =>
    intro ds G Q vs σ H h r s
    simp only [bltD] at h
    split at h
    · obtain ⟨v, rfl, r1⟩ := r.one
      obtain ⟨p, us, ys, rfl, hs, r2, ns, rfl, q⟩ := lst_ h r1 s
      rw [r2.ints] at hs
      exact CallR.wc (cr_sum hc) ⟨p, ns, rfl, hs, Lift.here (.int _) s q⟩
    · exact h.elim
  case max =>
    intro ds G Q vs σ H h r s
    simp only [bltD] at h
    split at h
    · obtain ⟨v, u, rfl, r1, r2⟩ := r.two
      cases r1; cases r2
      exact CallR.wc (call_max2 hc) ⟨_, _, rfl, Lift.here (.int _) s h⟩
    · obtain ⟨v, rfl, r1⟩ := r.one
      obtain ⟨p, us, ys, rfl, hs, r2, ns, rfl, hl, q⟩ := lst_ h r1 s
      rw [r2.ints] at hs
      exact CallR.wc (cr_max hc) ⟨p, ns, rfl, hs, hl, fun m h1 h2 => Lift.here (.int _) s (q m h1 h2)⟩
    · exact h.elim
  case min =>
    intro ds G Q vs σ H h r s
    simp only [bltD] at h
    split at h
    · obtain ⟨v, u, rfl, r1, r2⟩ := r.two
      cases r1; cases r2
      exact CallR.wc (call_min2 hc) ⟨_, _, rfl, Lift.here (.int _) s h⟩
    · obtain ⟨v, rfl, r1⟩ := r.one
      obtain ⟨p, us, ys, rfl, hs, r2, ns, rfl, hl, q⟩ := lst_ h r1 s
      rw [r2.ints] at hs
      exact CallR.wc (cr_min hc) ⟨p, ns, rfl, hs, hl, fun m h1 h2 => Lift.here (.int _) s (q m h1 h2)⟩
    · exact h.elim
  case all =>
    intro ds G Q vs σ H h r s
    simp only [bltD] at h
    split at h
    · obtain ⟨v, rfl, r1⟩ := r.one
      obtain ⟨p, us, ys, rfl, hs, r2, ns, rfl, q⟩ := lst_ h r1 s
      rw [r2.bls] at hs
      exact CallR.wc (cr_all hc) ⟨p, ns, rfl, hs, Lift.here (.bl _) s q⟩
    · exact h.elim
  case any =>
    intro ds G Q vs σ H h r s
    simp only [bltD] at h
    split at h
    · obtain ⟨v, rfl, r1⟩ := r.one
      obtain ⟨p, us, ys, rfl, hs, r2, ns, rfl, q⟩ := lst_ h r1 s
      rw [r2.bls] at hs
      exact CallR.wc (cr_any hc) ⟨p, ns, rfl, hs, Lift.here (.bl _) s q⟩
    · exact h.elim
  case isi =>
    intro ds G Q vs σ H h r s
    simp only [bltD] at h
    split at h
    · obtain ⟨v, u, rfl, r1, r2⟩ := r.two
      cases r2
      obtain ⟨t, ht, b, hb, q⟩ := ty_ h r1 s
      exact CallR.wc call_isi ⟨v, _, _, _, b, rfl, .ty _, ht, kit_ty hb, Lift.here (.bl b) s q⟩
    · exact h.elim
  case sorted =>
    intro ds G Q vs σ H h r s
    simp only [bltD] at h
    split at h
    · obtain ⟨v, rfl, r1⟩ := r.one
      obtain ⟨p, us, ys, rfl, hs, r2, ⟨ns, rfl, hl, q⟩ | ⟨ns, rfl, hl, q⟩⟩ := lst_ h r1 s
      · rw [r2.ints] at hs
        exact CallR.wc cr_sorted ⟨p, ns, rfl, hs, hl, fun ns' p h1 h2 hp => lift_lst (reps_ints ns') s (fun p' g => by
          exact q ns' p' h1 h2 g) hp⟩
      · rw [r2.strs] at hs
        exact CallR.wc cr_sortedS ⟨p, ns, rfl, hs, hl, fun ns' p h1 h2 hp => lift_lst (reps_strs ns') s (fun p' g => by
          exact q ns' p' h1 h2 g) hp⟩
    · exact h.elim
end
end DL

namespace DL
open PySem PySem.Spec PyProof.Rows L2
/-! no stars among the arguments -/
def noStar : Expr → Bool
  | .Starred .. => false
  | _ => true
theorem starEach_cons {e : Expr} {es : List Expr} {env : PySem.Env} (h : noStar e = true) : starEach (e :: es) env = (false, eval e env) :: starEach es env := by
  cases e <;> first | rfl | cases h
theorem starEach_any {env : PySem.Env} : ∀ {es : List Expr}, es.all noStar = true → ∀ pos, (backTo pos (starEach es env)).any (·.1) = false
  | [], _, _ => rfl
  | e :: es, h, pos => by
    rw [List.all_cons, Bool.and_eq_true] at h
    rw [starEach_cons h.1]
    have := starEach_any (env := env) h.2 pos
    unfold backTo at this ⊢
    rw [List.map_cons, List.any_cons, this]
    rfl
theorem starEach_all {env : PySem.Env} : ∀ {es : List Expr}, es.all noStar = true → ∀ pos, (backTo pos (starEach es env)).all (fun x => !x.1) = true
  | [], _, _ => rfl
  | e :: es, h, pos => by
    rw [List.all_cons, Bool.and_eq_true] at h
    rw [starEach_cons h.1]
    have := starEach_all (env := env) h.2 pos
    unfold backTo at this ⊢
    rw [List.map_cons, List.all_cons, this]
    rfl
def baseOk : Expr → Bool
  | .Call (.Name id _) [] [] _ => id != "super"
  | _ => true
theorem base_ok {o : Expr} {attr : Str} {env : PySem.Env} {whole : Sem Value} (h : baseOk o = true) : attributeBase o attr env whole = whole := by
  unfold attributeBase
  split
  · rename_i id p pos
    have e : (id != "super") = true := h
    rw [e]
    simp
  · rfl
section
variable {X : Cx} {e o : Expr} {es : List Expr} {te to : DE} {tas : DA} {p pos apos cpos : Pos}
/-! types by name -/
inductive Tn where
  | int | str | bool | list | tuple | dict
  deriving DecidableEq
def Tn.name : Tn → Str
  | .int => "int" | .str => "str" | .bool => "bool" | .list => "list" | .tuple => "tuple" | .dict => "dict"
def Tn.ty : Tn → String
  | .int => "int" | .str => "str" | .bool => "bool" | .list => "list" | .tuple => "tuple" | .dict => "dict"
theorem Tn.boot (b : Tn) : bootBuiltins b.name = some (.type b.ty) := by
  cases b <;> decide +kernel
theorem Tn.nn (b : Tn) : b.name ≠ "__name__" := by
  cases b <;> decide
theorem Tn.nd (b : Tn) : (b.name == ("__debug__" : Str)) = false := by
  cases b <;> decide
theorem qe_tn {t : Tn} (hg : Gl X t.name) (hm : X.mg t.name = none) : QE X (.Name t.name pos) (dC (.ty t.ty)) := qe_ty hg hm t.boot t.nn t.nd
/-- isinstance(e, (t, ..)) -/
def isNames : List Tn → List Expr → Bool
  | [], [] => true
  | t :: ts, .Name x _ :: es => decide (x = t.name) && isNames ts es
  | _, _ => false
theorem pa_tns : ∀ {ts : List Tn} {es : List Expr}, isNames ts es = true → (∀ t ∈ ts, Gl X t.name ∧ X.mg t.name = none) → PA X es (fun _ H Q => Q (ts.map fun t => V.ty t.ty) H)
  | [], [], _, _ => pa_nil
  | t :: ts, .Name x p :: es, h, hm => by
    unfold isNames at h
    rw [Bool.and_eq_true, decide_eq_true_eq] at h
    obtain ⟨rfl, h⟩ := h
    have h1 := hm t (by simp)
    exact pa_cons (pe_bltn (v := .ty t.ty) h1.1 h1.2 t.boot rfl t.nn t.nd) (pa_tns h fun u hu => hm u (by simp [hu])) rfl
  | [], _ :: _, h, _ => by simp [isNames] at h
  | _ :: _, [], h, _ => by simp [isNames] at h
def kitBs (t : String) : List String → Option Bool
  | [] => some false
  | c :: r => match kitB t c with
    | some true => some true
    | some false => kitBs t r
    | none => none
theorem kitBs_eq {K : PySem.W.Frag} {t : String} : ∀ ns : List String, PySem.W.kitAny K (.type t) (ns.map Value.type) = kitBs t ns
  | [] => rfl
  | c :: r => by
    rw [List.map_cons]
    unfold PySem.W.kitAny kitBs
    rw [show PySem.W.kitOne K (.type t) (.type c) = kitB t c from rfl]
    cases kitB t c with
    | none => rfl
    | some b =>
      cases b with
      | true => rfl
      | false => exact kitBs_eq r
def isiT (ts : List Tn) : DR1 := fun x G Q => tyD x G fun n => ∃ b, kitBs n (ts.map Tn.ty) = some b ∧ Q (.bl b) G
theorem cls_tns : ∀ ts : List Tn, Paired ClsV (ts.map fun t => V.ty t.ty) ((ts.map Tn.ty).map Value.type)
  | [] => .nil
  | t :: ts => .cons (.ty _) (cls_tns ts)
theorem qe_isiT {ts : List Tn} {k : Nat} {tp : Pos} (hg : Gl X "isinstance") (hm : X.mg "isinstance" = none) (he : QE X e te) (hn : noStar e = true) (ht : isNames ts es = true) (hts : ∀ t ∈ ts, Gl X t.name ∧ X.mg t.name = none) (hl : ts.length ≤ 1000) :
    QE X (.Call (.Name "isinstance" p) [e, .Tuple es k tp] [] pos) (dUn (isiT ts) te) := by
  refine ⟨fun ρ G Q xq σ H h rs s tk => ?_⟩
  refine PE.we (pe_callB call_isiT hg hm Bl.isi.boot (pa_cons pe_max (pa_cons (pe_tup (pa_tns ht hts)) pa_nil rfl) (starEach_cons hn)) Bl.isi.nn Bl.isi.nd (starEach_cons hn) rfl) ?_
  refine (he.run ρ G _ xq σ H h rs s tk).imp fun v H1 ⟨x, G1, rx, s1, e1, q1⟩ => ?_
  refine ⟨by rw [List.length_map]; exact Nat.le_of_lt (small1000 hl), fun p hp => ?_⟩
  have s2 : Sim X.K G1 (upd H1 p (.tup (ts.map fun t => V.ty t.ty))) := s1.newT hp
  have e2 : Ext X.K G1 H1 G1 (upd H1 p (.tup (ts.map fun t => V.ty t.ty))) := .newT hp
  obtain ⟨n, hty, b, hb, q⟩ := ty_ q1 (rx.mono e2.tup) s2
  exact ⟨v, p, _, _, _, b, rfl, upd_same, cls_tns ts, hty, by rw [kitBs_eq]; exact hb, .bl b, G1, .bl b, s2, e1.trans e2, q⟩
/-! methods of built-in types -/
inductive Mt where
  | append | extend | join | upper | index | pop | popAt | insert | clear | starts | rstrip | split
  deriving DecidableEq
def Mt.name : Mt → Str
  | .append => "append" | .extend => "extend" | .join => "join" | .upper => "upper" | .index => "index" | .pop => "pop" | .popAt => "pop" | .insert => "insert" | .clear => "clear" | .starts => "startswith" | .rstrip => "rstrip" | .split => "split"
abbrev DRM := D → List D → Sto → DQ → Prop
def mtD : Mt → DRM
  | .append => fun x ds G Q => match x, ds with
    | .ref a, [y] => ∃ xs, G a = some (.lst xs) ∧ xs.length < sizeLine ∧ Q .non (put G a (.lst (xs ++ [y])))
    | _, _ => False
  | .extend => fun x ds G Q => match x, ds with
    | .ref a, [.ref b] => ∃ xs ys, G a = some (.lst xs) ∧ G b = some (.lst ys) ∧ xs.length + ys.length ≤ sizeLine ∧ Q .non (put G a (.lst (xs ++ ys)))
    | .ref a, [.rl ys] => ∃ xs, G a = some (.lst xs) ∧ xs.length + ys.length ≤ sizeLine ∧ Q .non (put G a (.lst (xs ++ ys)))
    | _, _ => False
  | .join => fun x ds G Q => match x, ds with
    | .str z, [y] => seqD y G fun ys => ∃ ts : List Str, ys = ts.map D.str ∧ (ts.map (·.length)).sum + ts.length * z.length ≤ 16777216 ∧ Q (.str (Txt.join z ts)) G
    | _, _ => False
  | .upper => fun x ds G Q => match x, ds with
    | .str z, [] => z.length ≤ 5592405 ∧ Q (.str (Txt.upper z)) G
    | _, _ => False
  | .index => fun x ds G Q => match x, ds with
    | .ref a, [y] => ∃ (xs : List D) (ps : List PyData) (q z : PyData) (j : Nat), G a = some (.lst xs) ∧ Dds G xs ps ∧ Dd G y q ∧ SeqAt.shaped (.list ps) = true ∧ SeqAt.shaped q = true ∧ ps[j]? = some z ∧ PyData.eqv z q = true ∧
        (∀ (m : Nat) (z' : PyData), m < j → ps[m]? = some z' → PyData.eqv z' q = false) ∧ Q (.int (j : Nat)) G
    | .rl xs, [y] => ∃ (ps : List PyData) (q z : PyData) (j : Nat), Dds G xs ps ∧ Dd G y q ∧ SeqAt.shaped (.list ps) = true ∧ SeqAt.shaped q = true ∧ ps[j]? = some z ∧ PyData.eqv z q = true ∧
        (∀ (m : Nat) (z' : PyData), m < j → ps[m]? = some z' → PyData.eqv z' q = false) ∧ Q (.int (j : Nat)) G
    | _, _ => False
  | .pop => fun x ds G Q => match x, ds with
    | .ref a, [] => ∃ xs y, G a = some (.lst xs) ∧ xs[xs.length - 1]? = some y ∧ Q y (put G a (.lst xs.dropLast))
    | _, _ => False
  | .popAt => fun x ds G Q => match x, ds with
    | .ref a, [.int i] => ∃ (xs : List D) (k : Nat) (y : D), i = (k : Nat) ∧ k < 2 ^ 62 ∧ G a = some (.lst xs) ∧ xs[k]? = some y ∧ Q y (put G a (.lst (xs.eraseIdx k)))
    | _, _ => False
  | .insert => fun x ds G Q => match x, ds with
    | .ref a, [.int i, y] => ∃ xs, G a = some (.lst xs) ∧ xs.length < sizeLine ∧ 0 ≤ i ∧ i < 2 ^ 63 ∧ Q .non (put G a (.lst (xs.take i.toNat ++ [y] ++ xs.drop i.toNat)))
    | _, _ => False
  | .clear => fun x ds G Q => match x, ds with
    | .ref a, [] => ∃ xs, G a = some (.lst xs) ∧ Q .non (put G a (.lst []))
    | _, _ => False
  | .starts => fun x ds G Q => match x, ds with
    | .str a, [.str b] => Q (.bl (Txt.startswith a b)) G
    | _, _ => False
  | .rstrip => fun x ds G Q => match x, ds with
    | .str a, [.str b] => a.length ≤ sizeLine ∧ Q (.str (Txt.rstripChars a b)) G
    | _, _ => False
  | .split => fun x ds G Q => match x, ds with
    | .str a, [.str b] => (b.length == 0) = false ∧ a.length + 2 ≤ sizeLine ∧ ∀ p, G p = none → Q (.ref p) (put G p (.lst ((Txt.split a b).map D.str)))
    | _, _ => False
def Mt.ty : Mt → String
  | .append => "list" | .extend => "list" | .join => "str" | .upper => "str" | .index => "list" | .pop => "list" | .popAt => "list" | .insert => "list" | .clear => "list" | .starts => "str" | .rstrip => "str" | .split => "str"
def Mt.id : Mt → String
  | .append => "list.append" | .extend => "list.extend" | .join => "str.join" | .upper => "str.upper" | .index => "list.index" | .pop => "list.pop" | .popAt => "list.pop" | .insert => "list.insert" | .clear => "list.clear" | .starts => "str.startswith" | .rstrip => "str.rstrip" | .split => "str.split"
theorem Mt.attrs (m : Mt) : PlainAttrs m.ty := by
  cases m <;> first | exact PySem.F.plainAttrs_list | exact PySem.F.plainAttrs_str
theorem Mt.slot (m : Mt) : Slot m.ty m.name m.id := by
  cases m
  · exact PySem.F.slot_list_append
  · exact PySem.F.slot_list_extend
  · exact PySem.F.slot_str_join
  · exact PySem.F.slot_str_upper
  · exact PySem.F.slot_list_index
  · exact PySem.F.slot_list_pop
  · exact PySem.F.slot_list_pop
  · exact PySem.F.slot_list_insert
  · exact PySem.F.slot_list_clear
  · exact PySem.F.slot_str_startswith
  · exact PySem.F.slot_str_rstrip
  · exact PySem.F.slot_str_split
theorem Mt.typ (m : Mt) : typeOf (.builtin m.id) = pure (.type "method_descriptor") := by
  cases m
  · exact PySem.F.type_list_append
  · exact PySem.F.type_list_extend
  · exact PySem.F.type_str_join
  · exact PySem.F.type_str_upper
  · exact PySem.F.type_list_index
  · exact PySem.F.type_list_pop
  · exact PySem.F.type_list_pop
  · exact PySem.F.type_list_insert
  · exact PySem.F.type_list_clear
  · exact PySem.F.type_str_startswith
  · exact PySem.F.type_str_rstrip
  · exact PySem.F.type_str_split
/-- the receiver is of the method's type -/
def recD (t : String) (x : D) (G : Sto) : Prop := match x with
  | .str _ => t = "str"
  | .rl _ => t = "list"
  | .ref a => t = "list" ∧ ∃ ds, G a = some (.lst ds)
  | _ => False
theorem rec_ {K : PySem.W.Frag} {t : String} {x : D} {G : Sto} {v : V} {H : Hp} (h : recD t x G) (r : Rep K H v x) (s : Sim K G H) : tyV K t v H := by
  cases x with
  | str z => cases r; exact h
  | rl ds =>
    cases r with
    | rl h1 r1 => exact .inl ⟨h, _, frz_sq h1⟩
  | ref a =>
    cases r
    obtain ⟨e, ds, g⟩ := h
    obtain ⟨vs, h1, _⟩ := s a _ g
    exact .inl ⟨e, vs, .of h1⟩
  | _ => exact False.elim h
def WM (X : Cx) (id : String) (v : V) (vs : List V) (σ : L2.St) (H : Hp) (R : VK) : Prop :=
  ∀ pins s v' us, Inv X pins σ H s → RelV v v' → Vals vs us → wpAny (model X.prog X.w) X.A (call (.builtin id) (v' :: us)) (EP X pins σ R) X.xe s
theorem mt_max {id : String} : MtR X id (fun v vs H R => ∀ σ, WM X id v vs σ H R) := fun pins s σ H x xs v us Q I rx rs h => h σ pins s v us I rx rs
theorem MtR.wm {id : String} {r : V → List V → Hp → VK → Prop} {v : V} {vs : List V} {σ : L2.St} {H : Hp} {R : VK} (h : MtR X id r) (q : r v vs H R) : WM X id v vs σ H R := fun pins s v' us I rx rs => h pins s σ H v vs v' us R I rx rs q
theorem WM.imp {id : String} {v : V} {vs : List V} {σ : L2.St} {H : Hp} {R R' : VK} (h : WM X id v vs σ H R) (i : ∀ v H', R v H' → R' v H') : WM X id v vs σ H R' :=
  fun pins s v' us I rx rs => thn (h pins s v' us I rx rs) fun _ _ ⟨v, H', I', r, q⟩ => ⟨v, H', I', r, i _ _ q⟩
def MtD (X : Cx) (id : String) (r : DRM) : Prop := ∀ x ds G Q v vs σ H, r x ds G Q → Rep X.K H v x → Reps X.K H vs ds → Sim X.K G H → WM X id v vs σ H (Lift X.K G H Q)
theorem lift_mut {K : PySem.W.Frag} {G : Sto} {H : Hp} {Q : DQ} {a : Addr} {xs : List D} {vs ws : List V} {ys : List D} {v : V} {d : D} (g : G a = some (.lst xs)) (h : H a = some (.lst vs)) (s : Sim K G H) (r : Reps K H ws ys) (rv : Rep K H v d) (q : Q d (put G a (.lst ys))) : Lift K G H Q v (upd H a (.lst ws)) :=
  ⟨d, put G a (.lst ys), rv.mono (tup_mut h rfl), s.mut (c0 := .lst xs) h rfl ⟨ws, upd_same, r.mono (tup_mut h rfl)⟩, .mut g h rfl, q⟩
theorem Reps.dropLast {K : PySem.W.Frag} {H : Hp} {vs : List V} {ds : List D} (h : Reps K H vs ds) : Reps K H vs.dropLast ds.dropLast := by
  rw [List.dropLast_eq_take, List.dropLast_eq_take, h.length]
  exact h.take _
theorem Reps.eraseIdx {K : PySem.W.Frag} {H : Hp} : ∀ {vs : List V} {ds : List D} (i : Nat), Reps K H vs ds → Reps K H (vs.eraseIdx i) (ds.eraseIdx i)
  | _, _, _, .nil => .nil
  | _, _, 0, .cons _ t => t
  | _, _, i + 1, .cons q t => .cons q (Reps.eraseIdx i t)
theorem Reps.zero {K : PySem.W.Frag} {H : Hp} {vs : List V} (h : Reps K H vs []) : vs = [] := by cases h; rfl
theorem mt_extend_rd : MtM X "list.extend" (fun x vs H Q => ∃ l b xs zs, x = .ref l ∧ vs = [.ref b] ∧ H l = some (.lst xs) ∧ Rd H b (.lst zs) ∧ xs.length + zs.length ≤ sizeLine ∧ Q .non (upd H l (.lst (xs ++ zs)))) := by
  intro pins s σ H x vs v us Q I rx rv h
  obtain ⟨l, b, xs, zs, rfl, rfl, hH, hB, hz, q⟩ := h
  cases rx
  obtain ⟨u, rfl, ru⟩ := rv.one
  cases ru
  obtain ⟨z, its, n, r, hl, e⟩ := I.lstM hH
  obtain ⟨z2, its2, n2, r2, e2⟩ := hB.ok I.hok
  have hl2 := r2.length
  have hsz : its.toArray.size + its2.toArray.size ≤ sizeLine := by rw [List.size_toArray, List.size_toArray]; omega
  have hlong : ¬ (!its.toArray.isEmpty && Builtin.List.listTooLong (its.toArray.size + its2.toArray.size)) = true := by
    rw [notLongL hsz, Bool.and_false]
    exact Bool.false_ne_true
  refine call_meets F.slot_list_extend ⟨_, e, rfl⟩ F.entry_list_extend (F.args_list_extend_2 _ _)
    (AutoSeq1.list_extend_list_list_0 l its.toArray n b its2.toArray n2 hlong (by rw [List.size_toArray]; omega) (by omega)) ⟨e, e2, ?_⟩
  exact ⟨.non, _, I.lset (its' := its ++ its2) hH e (by simp) (r.append r2) (by rw [List.length_append]; omega), rfl, q⟩
theorem mt_ok (hu : X.A.units + 65 < cLine) (m : Mt) : MtD X m.id (mtD m) := by
  cases m
  case append =>
    intro x ds G Q v vs σ H h rx rs s
    simp only [mtD] at h
    split at h
    · cases rx
      obtain ⟨xs, g, hl, q⟩ := h
      obtain ⟨u, rfl, r1⟩ := rs.one
      obtain ⟨ws, h1, r2⟩ := s _ _ g
      exact MtR.wm mt_append ⟨_, ws, u, rfl, rfl, h1, by rw [r2.length]; exact hl, lift_mut g h1 s (r2.append (.cons r1 .nil)) .non q⟩
    · exact h.elim
  case extend =>
    intro x ds G Q v vs σ H h rx rs s
    simp only [mtD] at h
    split at h
    · cases rx
      obtain ⟨xs, ys, g, g', hl, q⟩ := h
      obtain ⟨u, rfl, r1⟩ := rs.one
      cases r1
      obtain ⟨ws, h1, r2⟩ := s _ _ g
      obtain ⟨zs, h3, r3⟩ := s _ _ g'
      exact MtR.wm mt_extend ⟨_, _, ws, zs, rfl, rfl, h1, h3, by rw [r2.length, r3.length]; exact hl, lift_mut g h1 s (r2.append r3) .non q⟩
    · cases rx
      obtain ⟨xs, g, hl, q⟩ := h
      obtain ⟨u, rfl, r1⟩ := rs.one
      cases r1 with
      | rl h3 r3 =>
        obtain ⟨ws, h1, r2⟩ := s _ _ g
        exact MtR.wm mt_extend_rd ⟨_, _, ws, _, rfl, rfl, h1, .inr ⟨_, h3⟩, by rw [r2.length, r3.length]; exact hl, lift_mut g h1 s (r2.append r3) .non q⟩
    · exact h.elim
  case join =>
    intro x ds G Q v vs σ H h rx rs s
    simp only [mtD] at h
    split at h
    · cases rx
      obtain ⟨u, rfl, r1⟩ := rs.one
      obtain ⟨p, us, ys, rfl, hs, r2, ts, rfl, hl, q⟩ := seq_ h r1 s
      rw [r2.strs] at hs
      exact MtR.wm mt_join ⟨_, p, ts, rfl, rfl, hs, hl, Lift.here (.str _) s q⟩
    · exact h.elim
  case upper =>
    intro x ds G Q v vs σ H h rx rs s
    simp only [mtD] at h
    split at h
    · cases rx
      rw [rs.zero]
      exact MtR.wm mt_upper ⟨_, rfl, rfl, h.1, Lift.here (.str _) s h.2⟩
    · exact h.elim
  case index =>
    intro x ds G Q v vs σ H h rx rs s
    simp only [mtD] at h
    split at h
    · cases rx
      obtain ⟨u, rfl, r1⟩ := rs.one
      obtain ⟨xs, ps, q, z, j, g, h1, h2, h3, h4, h5, h6, h7, h8⟩ := h
      obtain ⟨ws, h9, r2⟩ := s _ _ g
      exact MtR.wm (mt_indexD hu) ⟨_, u, q, ps, j, z, rfl, rfl, .lst (.of h9) (h1.dp s r2), h2.dp s r1, h3, h4, h5, h6, h7, Lift.here (.int _) s h8⟩
    · cases rx with
      | rl h9 r2 =>
        obtain ⟨u, rfl, r1⟩ := rs.one
        obtain ⟨ps, q, z, j, h1, h2, h3, h4, h5, h6, h7, h8⟩ := h
        exact MtR.wm (mt_indexD hu) ⟨_, u, q, ps, j, z, rfl, rfl, .lst (frz_sq h9) (h1.dp s r2), h2.dp s r1, h3, h4, h5, h6, h7, Lift.here (.int _) s h8⟩
    · exact h.elim
  case pop =>
    intro x ds G Q v vs σ H h rx rs s
    simp only [mtD] at h
    split at h
    · cases rx
      rw [rs.zero]
      obtain ⟨xs, y, g, h1, q⟩ := h
      obtain ⟨ws, h2, r2⟩ := s _ _ g
      obtain ⟨w, h3, r3⟩ := r2.get h1
      exact MtR.wm mt_pop ⟨_, ws, w, rfl, rfl, h2, by rw [r2.length]; exact h3, lift_mut g h2 s r2.dropLast r3 q⟩
    · exact h.elim
  case popAt =>
    intro x ds G Q v vs σ H h rx rs s
    simp only [mtD] at h
    split at h
    · cases rx
      obtain ⟨u, rfl, r1⟩ := rs.one
      cases r1
      obtain ⟨xs, k, y, rfl, hk, g, h1, q⟩ := h
      obtain ⟨ws, h2, r2⟩ := s _ _ g
      obtain ⟨w, h3, r3⟩ := r2.get h1
      have hkl : k < ws.length := by
        cases hh : ws[k]? with
        | none => rw [hh] at h3; cases h3
        | some z => exact (List.getElem?_eq_some_iff.mp hh).1
      refine MtR.wm mt_popAt ⟨_, ws, _, k, w, rfl, rfl, h2, by omega, by omega, ?_, h3, lift_mut g h2 s (r2.eraseIdx k) r3 q⟩
      unfold seqIndex?
      have hk0 : (((k : Nat) : Int) < 0) = False := eq_false (by omega)
      simp [hk0, hkl]
    · exact h.elim
  case insert =>
    intro x ds G Q v vs σ H h rx rs s
    simp only [mtD] at h
    split at h
    · cases rx
      obtain ⟨u, w, rfl, r1, r3⟩ := rs.two
      cases r1
      obtain ⟨xs, g, hl, h0, h1, q⟩ := h
      obtain ⟨ws, h2, r2⟩ := s _ _ g
      exact MtR.wm mt_insert ⟨_, ws, _, w, rfl, rfl, h2, by rw [r2.length]; exact hl, h0, h1, lift_mut g h2 s (((r2.take _).append (.cons r3 .nil)).append (r2.drop _)) .non q⟩
    · exact h.elim
  case clear =>
    intro x ds G Q v vs σ H h rx rs s
    simp only [mtD] at h
    split at h
    · cases rx
      rw [rs.zero]
      obtain ⟨xs, g, q⟩ := h
      obtain ⟨ws, h2, r2⟩ := s _ _ g
      exact MtR.wm mt_clear ⟨_, ws, rfl, rfl, h2, lift_mut g h2 s .nil .non q⟩
    · exact h.elim
  case starts =>
    intro x ds G Q v vs σ H h rx rs s
    simp only [mtD] at h
    split at h
    · cases rx
      obtain ⟨u, rfl, r1⟩ := rs.one
      cases r1
      exact MtR.wm mt_startswith ⟨_, _, rfl, rfl, Lift.here (.bl _) s h⟩
    · exact h.elim
  case rstrip =>
    intro x ds G Q v vs σ H h rx rs s
    simp only [mtD] at h
    split at h
    · cases rx
      obtain ⟨u, rfl, r1⟩ := rs.one
      cases r1
      exact MtR.wm mt_rstripChars ⟨_, _, rfl, rfl, h.1, Lift.here (.str _) s h.2⟩
    · exact h.elim
  case split =>
    intro x ds G Q v vs σ H h rx rs s
    simp only [mtD] at h
    split at h
    · cases rx
      obtain ⟨u, rfl, r1⟩ := rs.one
      cases r1
      exact MtR.wm mt_split ⟨_, _, rfl, rfl, h.1, h.2.1, fun p hp => lift_lst (reps_strs _) s h.2.2 hp⟩
    · exact h.elim
def dMt (t : String) (r : DRM) (to : DE) (tas : DA) : DE := fun ρ G Q xq => to ρ G (fun x G1 => recD t x G1 ∧ tas ρ G1 (fun ds G2 => r x ds G2 Q) xq) xq
theorem qe_mt {m : Mt} {r : DRM} (hr : MtD X m.id r) (ho : QE X o to) (ha : QA X (e :: es) tas) (hb : baseOk o = true) (hn : (e :: es).all noStar = true) (hl : (e :: es).length < 30) (hline : (apos.endLine == cpos.line) = true) :
    QE X (.Call (.Attribute o m.name apos) (e :: es) [] cpos) (dMt m.ty r to tas) := by
  refine ⟨fun ρ G Q xq σ H h rs s tk => ?_⟩
  have hn2 := hn
  rw [List.all_cons, Bool.and_eq_true] at hn2
  refine PE.we (pe_bm m.attrs m.slot m.typ mt_max pe_max pa_max (base_ok hb) ?_ hline (starEach_cons hn2.1) (starEach_any hn2.2 _)) ?_
  · rw [starEach_all hn cpos]
    simp only [List.length_nil, List.isEmpty_nil, if_true, Nat.add_zero]
    rw [decide_eq_true hl]
    rfl
  · refine (ho.run ρ G _ xq σ H h rs s tk).imp fun v H1 ⟨x, G1, rx, s1, e1, rc, q1⟩ => ⟨rec_ rc rx s1, ?_⟩
    refine (ha.run ρ G1 _ xq σ H1 q1 (rs.mono e1.tup) s1 (tk.step e1)).imp fun vs H2 ⟨ds, G2, r2, s2, e2, q2⟩ => fun σ' => ?_
    exact (hr x ds G2 Q v vs σ' H2 q2 (rx.mono e2.tup) r2 s2).imp (Lift.back (e1.trans e2))
theorem qe_mt0 {m : Mt} {r : DRM} (hr : MtD X m.id r) (ho : QE X o to) (hb : baseOk o = true) (hline : (apos.endLine == cpos.line) = true) :
    QE X (.Call (.Attribute o m.name apos) [] [] cpos) (dMt m.ty r to dNil) := by
  refine ⟨fun ρ G Q xq σ H h rs s tk => ?_⟩
  refine PE.we (pe_bm0 m.attrs m.slot m.typ mt_max pe_max (base_ok hb) hline) ?_
  refine (ho.run ρ G _ xq σ H h rs s tk).imp fun v H1 ⟨x, G1, rx, s1, e1, rc, q1⟩ => ⟨rec_ rc rx s1, fun σ' => ?_⟩
  exact (hr x [] G1 Q v [] σ' H1 q1 rx .nil s1).imp (Lift.back e1)
/-! defs of the text -/
abbrev DSp := List D → Sto → DQ → XQ → Prop
def liftSp (K : PySem.W.Frag) (sp : DSp) : Sp := fun vs H Q E => ∃ ds G Q' xq, Reps K H vs ds ∧ Sim K G H ∧ sp ds G Q' xq ∧ (∀ v H', Lift K G H Q' v H' → Q v H') ∧
  ∀ x cls d G' H', ExnRep K H' cls d x → Sim K G' H' → Ext K G H G' H' → xq x G' → E cls d H'
def Cal (X : Cx) (x : Str) (sp : DSp) : Prop := ∃ (k : Nat) (f : Addr) (fd : FuncData) (ps : List Str) (sp0 : DSp) (dd : List D) (dvs : List V) (dus : List Value),
  FnOk X.prog X.w X.K X.mg X.base (L2.CX X.prog X.w) k f fd ps (liftSp X.K sp0) ∧ Room k X.A ∧ X.mg x = some (.ref f) ∧ PySem.W.keepIn X.K (.ref f) = true ∧ Binds X.K fd ps dus ∧ Vals dvs dus ∧ (∀ H, Reps X.K H dvs dd) ∧
    ∀ ds G Q xq, sp ds G Q xq → sp0 (ds ++ dd) G Q xq
def dFn (sp : DSp) (t : DA) : DE := fun ρ G Q xq => t ρ G (fun ds G1 => sp ds G1 Q xq) xq
theorem passes_max {σ : L2.St} : PassesAt (L2.CX X.prog X.w) X σ (fun cls d H' => XW X cls d σ H') := fun pins H s e s' I c => takes_max e s' (XE.of_call I (fun _ _ _ h => h) c)
theorem qe_fn {x : Str} {sp : DSp} (c : Cal X x sp) (hg : Gl X x) (ha : QA X (e :: es) tas) (hd : (x == ("__debug__" : Str)) = false) (hn : (e :: es).all noStar = true) :
    QE X (.Call (.Name x p) (e :: es) [] pos) (dFn sp tas) := by
  obtain ⟨k, f, fd, ps, sp0, dd, dvs, dus, F, hr, hm, hk, hb, hv, hdd, hsp⟩ := c
  rw [List.all_cons, Bool.and_eq_true] at hn
  refine ⟨fun ρ G Q xq σ H h rs s tk => ?_⟩
  refine PE.we (pe_callSD (E := fun σ cls d H' => XW X cls d σ H') F hr hg hm hk hb hv (fun _ => passes_max) pa_max hd (starEach_cons hn.1) (starEach_any hn.2 _)) ?_
  refine (ha.run ρ G _ xq σ H h rs s tk).imp fun vs H1 ⟨ds, G1, r1, s1, e1, q1⟩ => ?_
  exact ⟨ds ++ dd, G1, Q, xq, r1.append (hdd H1), s1, hsp _ _ _ _ q1, fun v H' l => Lift.back e1 _ _ l, fun z cls d G' H' x1 x2 x3 x4 => tk z cls d G' H' x1 x2 (e1.trans x3) x4⟩
theorem qe_fn0 {x : Str} {sp : DSp} (c : Cal X x sp) (hg : Gl X x) (hd : (x == ("__debug__" : Str)) = false) :
    QE X (.Call (.Name x p) [] [] pos) (dFn sp dNil) := by
  obtain ⟨k, f, fd, ps, sp0, dd, dvs, dus, F, hr, hm, hk, hb, hv, hdd, hsp⟩ := c
  refine ⟨fun ρ G Q xq σ H h rs s tk => ?_⟩
  intro pins s1 I
  refine wpAny_Call_Name_kw (ld_glob I hg hm ?_ hd)
  refine PySem.W.callWith_K0 I.kIn hk (run_fnSD (E := fun σ cls d H' => XW X cls d σ H') (us := []) F hr hb hv passes_max I .nil ?_)
  exact ⟨[] ++ dd, G, Q, xq, Reps.append .nil (hdd H), s, hsp _ _ _ _ h, fun v H' l => l, fun z cls d G' H' x1 x2 x3 x4 => tk z cls d G' H' x1 x2 x3 x4⟩
end
end DL

namespace DL
open PySem PySem.Spec PyProof.Rows L2
/-! enumerate over a tuple -/
set_option maxHeartbeats 1000000 in
theorem en_new {u : Value} {ob : Obj} {HH : Heap → Prop} (Bg : Begins u ob HH) :
    Meets (Builtin.«enumerate.__new__» ⟨[.type "enumerate", u], []⟩) (fun _ R s => HH s.heap ∧
      R (.ok (.ret (.ref (s.heap.push ob).objs.size))) { s with heap := (s.heap.push ob).push { cls := .type "enumerate", data := .fields #[.none, .bool false, .ref s.heap.objs.size, rawInt 0, .none, .none] } }) :=
  .of_wp fun P w Ar R s0 hyp => by
    obtain ⟨hp, gg, dd, tk, os⟩ := s0
    obtain ⟨hh1, hyp⟩ := hyp
    have hsub := sub_enumerate
    have q0 : ∀ {A' : Around} {E' : Value → Shared → Prop} {Q' : Value → Shared → Prop}, Q' (.ref hp.objs.size) ⟨hp.push ob, gg, dd, tk, os⟩ → wpAny (model P w) A' (pyIter u) Q' E' ⟨hp, gg, dd, tk, os⟩ :=
      fun q => Bg.iter P w _ _ ⟨hp, gg, dd, tk, os⟩ _ hh1 q
    wp_walk using q0
    refine wpAny_stack_any fun st0 => wpAny_pure ?_
    split
    · rename_i k0 _ _ _ _ _
      cases (k0 == Value.type "enumerate")
      · wp_walk using q0
        exact ⟨_, rfl, hyp⟩
      · wp_walk using q0
        exact ⟨_, rfl, hyp⟩
    · wp_walk using q0
      exact ⟨_, rfl, hyp⟩
theorem en_call {P : Program} {w : World} {Ar : Around} {E : Value → Shared → Prop} {s : Shared} {u : Value} {ob : Obj} {HH : Heap → Prop} {Q : Value → Shared → Prop} (Bg : Begins u ob HH) (h1 : HH s.heap)
    (h : ∀ h', IsEnum h' (s.heap.objs.size + 1) s.heap.objs.size 0 .none → h'.get? s.heap.objs.size = some ob → h'.objs.size = s.heap.objs.size + 2 → (∀ b o, s.heap.get? b = some o → h'.get? b = some o) → Q (.ref (s.heap.objs.size + 1)) { s with heap := h' }) :
    wpAny (model P w) Ar (call (.type "enumerate") [u]) Q E s := by
  refine callType_new F.called_enumerate (by decide) (F.typeCall_enumerate_1 _) (F.newCall_enumerate_1 _) (fun obj => F.args_object_init_2 obj _) F.entry_enumerate_new (en_new Bg) ⟨h1, ?_⟩
  have hz1 : (s.heap.push ob).objs.size = s.heap.objs.size + 1 := Heap.size_push ..
  show _ ∧ _
  rw [hz1]
  have he : IsEnum ((s.heap.push ob).push { cls := .type "enumerate", data := .fields #[.none, .bool false, .ref s.heap.objs.size, rawInt 0, .none, .none] }) (s.heap.objs.size + 1) s.heap.objs.size 0 .none := by
    have e := Heap.get?_push_size (s.heap.push ob) (o := { cls := .type "enumerate", data := .fields #[.none, .bool false, .ref s.heap.objs.size, rawInt 0, .none, .none] }) rfl
    rw [hz1] at e
    exact e
  exact ⟨⟨_, he, rfl⟩, h _ he (Heap.get?_push_of_some _ (Heap.get?_push_size _ Bg.free)) (by rw [Heap.size_push, hz1]) fun b o x => Heap.get?_push_of_some _ (Heap.get?_push_of_some _ x)⟩
/-- the tuple at a, each item in a new pair -/
def Itet (K : PySem.W.Frag) (a : Addr) : It :=
  ⟨fun i H => ∃ (xs : List V) (x : V), SqT K H a xs ∧ xs[i]? = some x, fun i H v H' => ∃ T x, v = .ref T ∧ H T = none ∧ H' = upd H T (.tup [.int (i : Nat), x]) ∧ ∀ xs, SqT K H a xs → xs[i]? = some x, fun i H => ∃ xs : List V, SqT K H a xs ∧ xs.length ≤ i⟩
theorem isTup_tuple {h : Heap} {a : Addr} {its : Array Value} (p : IsTup h a its) : h.IsTuple a its := p
theorem turn_enumT {P : Program} {w : World} {K : PySem.W.Frag} {elts : List Expr} {kk : Nat} {tpos : Pos} (a e it : Addr) (hae : a ≠ e) (hai : a ≠ it) :
    Turn P w K (.Tuple elts kk tpos) (Itet K a) [e, it] e (fun i h => (∃ old, IsEnum h e it ((i : Nat) : Int) old) ∧ h.IsTupleIter it a i ∧ e ≠ it) where
  mem := by simp
  obj := fun i h st b hb => by
    obtain ⟨⟨old, he⟩, ⟨o, ho, hc, hd⟩, _⟩ := st
    have e2 : b = e ∨ b = it := by simpa using hb
    rcases e2 with z | z
    · rw [z]; exact ⟨_, he, fun v q => nomatch q⟩
    · rw [z]; exact ⟨o, ho, fun v q => by rw [hd] at q; cases q⟩
  keep := fun i h h' st k => by
    obtain ⟨⟨old, he⟩, hi, hne⟩ := st
    exact ⟨⟨old, k e (by simp) _ he⟩, hi.at fun o q => k it (by simp) o q, hne⟩
  item := by
    intro X eP ew eK hc i pins s σ H E I hf st hg
    subst eP ew eK
    obtain ⟨⟨old, he⟩, hit, hne⟩ := st
    obtain ⟨xs, x, hq, hx⟩ := hg
    obtain ⟨its, rv, p, hz⟩ := I.tuple hq
    obtain ⟨u, hu, ru⟩ := rv.get hx
    have hel : e < s.heap.objs.size := Heap.lt_size he
    have hil : it < s.heap.objs.size := by obtain ⟨_, q, _⟩ := hit; exact Heap.lt_size q
    have hlt : i < its.toArray.size := by
      have := (List.getElem?_eq_some_iff.mp hu).1
      simpa using this
    refine wpAny_pyNext_enum_itemD (Draws.tuple (A := X.A.in1) (I.ok.hd hc) it a hai its.toArray) he ⟨hit, p⟩ hlt hne (by simp [hne, hae.symm]) fun y h' tk hy ho hst hT hsz hk => ?_
    have ey : y = u := by
      have h1 : its.toArray[i]? = some u := by simpa using hu
      rw [h1] at hy
      exact (Option.some.inj hy).symm
    subst ey
    refine ⟨_, rfl, wpAny_letOwnedTupleGo_enum (s := { s with heap := h', toks := tk + 1 }) ho fun h'' he' sb => ?_⟩
    have hT2 : h''.get? s.heap.objs.size = some { cls := .type "tuple", data := .seq #[.int i tk, y] } := (sb.2 _ (Nat.ne_of_gt hel)).trans hT
    have nw : ObjOk X.prog X.w (upd H s.heap.objs.size (.tup [.int (i : Nat), x])) h'' s.heap.objs.size (.tup [.int (i : Nat), x]) :=
      ⟨by show 2 ≤ sizeLine; decide, [.int i tk, y], .cons ⟨_, rfl⟩ (.cons ru .nil), ⟨_, hT2, rfl, _, rfl⟩⟩
    have I1 : Inv X pins σ (upd H s.heap.objs.size (.tup [.int (i : Nat), x])) { s with heap := h'', toks := tk + 1 } :=
      I.turnedNew (ch := [e, it]) (fun b ob hb q => (sb.2 b (fun z => hb (by simp [z]))).trans (hk b ob (fun z => hb (by simp [z])) (fun z => hb (by simp [z])) q)) hf (Nat.le_refl _) nw
    refine ⟨.ref s.heap.objs.size, _, I1, rfl, ⟨_, x, rfl, I.hok.fresh (Nat.le_refl _), rfl, fun ys hy => by rw [I.tuple_inj hy hq]; exact hx⟩, ⟨⟨y, ?_⟩, hst.1.at fun o q => (sb.2 it (Ne.symm hne)).trans q, hne⟩, fun b hb => ?_⟩
    · have e1 : ((i + 1 : Nat) : Int) = (i : Int) + 1 := by omega
      rw [e1]
      exact he'
    · have hb' : b < s.heap.objs.size := by
        have e2 : b = e ∨ b = it := by simpa using hb
        rcases e2 with z | z
        · rw [z]; exact hel
        · rw [z]; exact hil
      rw [upd_ne (Nat.ne_of_lt hb')]
      exact (hf b hb).1
  done := by
    intro X eP ew eK hc i pins s σ H E I hf st hg
    subst eP ew eK
    obtain ⟨⟨old, he⟩, hit, hne⟩ := st
    obtain ⟨xs, hq, hx⟩ := hg
    obtain ⟨its, rv, p, hz⟩ := I.tuple hq
    obtain ⟨f0, f1, f2, f3, f4, f5⟩ := hf it (by simp)
    have hl := rv.length
    have nx : its.toArray[i]? = none := by
      rw [List.getElem?_toArray]
      exact List.getElem?_eq_none (by omega)
    have hT : s.TypeIs (.ref e) "enumerate" := ⟨_, he, rfl⟩
    unfold pyNext
    refine wpAny_bind (wpAny_attempt (wpAny_callSpecial?_slot (name := Str.ofString "__next__") hT F.slot_enumerate_next (wpAny_call_entry F.slot_enumerate_next hT F.entry_enumerate_next ?_ (F.args_enumerate_next_1 _))))
    show wpAny _ _ (field (.ref e) 2 >>= _) _ _ _
    refine wpAny_bind (wpAny_field he rfl (x := .ref it) rfl ?_)
    refine wpAny_bind (wpAny_nextOf_tuple_end (I.ok.hd hc) hit p nx fun h' x eb hx' => ?_)
    obtain ⟨o, ho, hc2⟩ := hx'
    refine wpAny_bind (wpAny_isInstance (T := "StopIteration") (b := true) ⟨o, ho, hc2⟩ isSubtype_stop ?_)
    exact wpAny_pure ⟨rfl, I.turned (t' := s.toks) (fun b o hb q => eb b o hb q) f0 f1 f3 f4 f5⟩
  self := fun A i s Q E st h => by
    obtain ⟨⟨_, he⟩, _⟩ := st
    exact wpAny_pyIter_enum he h
theorem pi_enB {X : Cx} {e : Expr} {ta : TA} {p pos tpos : Pos} {elts : List Expr} {kk : Nat} (hg : Gl X "enumerate") (hm : X.mg "enumerate" = none) (ha : PA X [e] ta) (hs : starEach [e] X.env = [(false, eval e X.env)]) :
    PI X (.Tuple elts kk tpos) (.Call (.Name "enumerate" p) [e] [] pos) (fun σ H R => ta σ H fun vs H1 => (∃ a xs, vs = [.ref a] ∧ SqL X.K H1 a xs ∧ R (Ite X.K a) H1) ∨ ∃ a xs, vs = [.ref a] ∧ SqT X.K H1 a xs ∧ R (Itet X.K a) H1) := by
  refine ⟨fun pins s σ H R I h => ?_⟩
  refine Call_ (ld_blt I hg hm boot_enumerate (PyProof.Rows.callWith_type1 (thn (ha.run pos pins s σ H _ I h) fun us s1 ⟨vs, H1, I1, r1, q1⟩ => ?_) hs rfl))
  have hle : ∀ b, b ∈ [s1.heap.objs.size + 1, s1.heap.objs.size] → s1.heap.objs.size ≤ b := fun b hb => by
    have e' : b = s1.heap.objs.size + 1 ∨ b = s1.heap.objs.size := by simpa using hb
    rcases e' with z | z
    · rw [z]; exact Nat.le_succ _
    · rw [z]; exact Nat.le_refl _
  rcases q1 with ⟨a, xs, ex, hq, q⟩ | ⟨a, xs, ex, hq, q⟩
  · subst ex
    cases r1 with
    | cons r rr =>
      cases rr
      cases r
      obtain ⟨its, rv, p', hz⟩ := I1.list hq
      refine call_enumerate_list p'.isList fun h' he hit hsz hk => wpAny_pyIter_enum he ?_
      have I2 : Inv X pins σ H1 { s1 with heap := h' } := I1.kept (t' := s1.toks) hk
      exact ⟨s1.heap.objs.size + 1, [s1.heap.objs.size + 1, s1.heap.objs.size], _, _, H1, rfl, I2, turn_enum a (s1.heap.objs.size + 1) s1.heap.objs.size, ⟨⟨.none, he⟩, hit, Nat.succ_ne_self _⟩, fun b hb => I1.fpOk (hle b hb) (I1.hok.fresh (hle b hb)), q⟩
  · subst ex
    cases r1 with
    | cons r rr =>
      cases rr
      cases r
      obtain ⟨its, rv, p', hz⟩ := I1.tuple hq
      have hlt : a < s1.heap.objs.size := by obtain ⟨o, ho, _⟩ := p'; exact Heap.lt_size ho
      refine en_call (begins_tuple a its.toArray) p' fun h' he hit hsz hk => wpAny_pyIter_enum he ?_
      have I2 : Inv X pins σ H1 { s1 with heap := h' } := I1.kept (t' := s1.toks) hk
      exact ⟨s1.heap.objs.size + 1, [s1.heap.objs.size + 1, s1.heap.objs.size], _, _, H1, rfl, I2, turn_enumT a (s1.heap.objs.size + 1) s1.heap.objs.size (Nat.ne_of_lt (Nat.lt_succ_of_lt hlt)) (Nat.ne_of_lt hlt), ⟨⟨.none, he⟩, ⟨_, hit, rfl, rfl⟩, Nat.succ_ne_self _⟩, fun b hb => I1.fpOk (hle b hb) (I1.hok.fresh (hle b hb)), q⟩
end DL

namespace DL
open PySem PySem.Spec PyProof.Rows L2 RZ
/-! what is walked; H0: where it began -/
structure ItRep (K : PySem.W.Frag) (H0 : Hp) (J : It) (items : List D) (keep : Sto → Prop) : Prop where
  go : ∀ (i : Nat) G H, TupExt K H0 H → Sim K G H → keep G → i < items.length → J.go i H
  stop : ∀ (i : Nat) G H, TupExt K H0 H → Sim K G H → keep G → items.length ≤ i → J.stop i H
  yld : ∀ (i : Nat) G H x H', TupExt K H0 H → Sim K G H → keep G → i < items.length → J.yld i H x H' → ∃ d, items[i]? = some d ∧ Rep K H' x d ∧ Sim K G H' ∧ Ext K G H G H'
abbrev IQ := List D → (Sto → Prop) → Sto → Prop
abbrev DI := Ev → Sto → IQ → XQ → Prop
def WI (X : Cx) (tg iter : Expr) : TI := fun σ H R => ∀ pins s, Inv X pins σ H s → wpAny (model X.prog X.w) X.A (eval iter X.env) (fun v s1 => wpAny (model X.prog X.w) X.A (pyIter v) (PIE X pins σ tg R) X.xe s1) X.xe s
def LiftI (K : PySem.W.Frag) (G : Sto) (H : Hp) (R : IQ) : It → Hp → Prop := fun J H' => ∃ items keep G', ItRep K H' J items keep ∧ Sim K G' H' ∧ Ext K G H G' H' ∧ R items keep G'
structure QI (X : Cx) (tg iter : Expr) (t : DI) : Prop where
  run : ∀ ρ G R xq σ H, t ρ G R xq → RepS X.K H σ ρ → Sim X.K G H → Tk X σ G H xq → WI X tg iter σ H (LiftI X.K G H R)
section
variable {X : Cx} {tg iter e a b : Expr} {te ta tb : DE} {es : List Expr} {tas : DA} {p pos : Pos}
theorem pi_max : PI X tg iter (WI X tg iter) := ⟨fun pins s σ H R I h => h pins s I⟩
theorem PI.wi {t : TI} {σ : L2.St} {H : Hp} {R : It → Hp → Prop} (h : PI X tg iter t) (q : t σ H R) : WI X tg iter σ H R := fun pins s I => h.run pins s σ H R I q
def keepL (a : Addr) (ds : List D) : Sto → Prop := fun G => G a = some (.lst ds)
theorem keepL_ {K : PySem.W.Frag} {a : Addr} {ds : List D} {G : Sto} {H : Hp} (k : keepL a ds G) (s : Sim K G H) : ∃ vs, SqL K H a vs ∧ Reps K H vs ds := by
  obtain ⟨vs, h, r⟩ := s a _ k
  exact ⟨vs, .of h, r⟩
theorem it_list {K : PySem.W.Frag} {H0 : Hp} {a : Addr} {ds : List D} : ItRep K H0 (Itl K a) ds (keepL a ds) where
  go := fun i G H _ s k hi => by
    obtain ⟨vs, h, r⟩ := keepL_ k s
    obtain ⟨v, hv, _⟩ := r.get (List.getElem?_eq_getElem hi)
    exact ⟨vs, v, h, hv⟩
  stop := fun i G H _ s k hi => by
    obtain ⟨vs, h, r⟩ := keepL_ k s
    exact ⟨vs, h, by rw [r.length]; exact hi⟩
  yld := fun i G H x H' _ s k hi y => by
    obtain ⟨vs, h, r⟩ := keepL_ k s
    obtain ⟨rfl, hy⟩ := y
    obtain ⟨d, hd, rd⟩ := r.getV (hy vs h)
    exact ⟨d, hd, rd, s, .refl⟩
theorem it_tup {K : PySem.W.Frag} {H0 : Hp} {a : Addr} {vs : List V} {ds : List D} (h : SqT K H0 a vs) (r : Reps K H0 vs ds) : ItRep K H0 (Itt K a) ds (fun _ => True) where
  go := fun i G H t s k hi => by
    obtain ⟨v, hv, _⟩ := r.get (List.getElem?_eq_getElem hi)
    exact ⟨vs, v, t.t _ _ h, hv⟩
  stop := fun i G H t s k hi => ⟨vs, t.t _ _ h, by rw [r.length]; exact hi⟩
  yld := fun i G H x H' t s k hi y => by
    obtain ⟨rfl, hy⟩ := y
    obtain ⟨d, hd, rd⟩ := r.getV (hy vs (t.t _ _ h))
    exact ⟨d, hd, rd.mono t, s, .refl⟩
theorem it_rl {K : PySem.W.Frag} {H0 : Hp} {a : Addr} {o : Obj} {vs : List V} {ds : List D} (h : H0 a = some (.frz o (.lst vs))) (r : Reps K H0 vs ds) : ItRep K H0 (Itl K a) ds (fun _ => True) where
  go := fun i G H t s k hi => by
    obtain ⟨v, hv, _⟩ := r.get (List.getElem?_eq_getElem hi)
    exact ⟨vs, v, frz_sq (t.d _ _ _ h), hv⟩
  stop := fun i G H t s k hi => ⟨vs, frz_sq (t.d _ _ _ h), by rw [r.length]; exact hi⟩
  yld := fun i G H x H' t s k hi y => by
    obtain ⟨rfl, hy⟩ := y
    obtain ⟨d, hd, rd⟩ := r.getV (hy vs (frz_sq (t.d _ _ _ h)))
    exact ⟨d, hd, rd.mono t, s, .refl⟩
def rangeD (lo : Int) (n : Nat) : List D := (List.range n).map fun i => D.int (lo + (i : Nat))
theorem rangeD_len (lo : Int) (n : Nat) : (rangeD lo n).length = n := by unfold rangeD; simp
theorem it_range {K : PySem.W.Frag} {H0 : Hp} {lo : Int} {n : Nat} : ItRep K H0 (Itr lo n) (rangeD lo n) (fun _ => True) where
  go := fun i G H _ s k hi => by
    rw [rangeD_len] at hi
    exact hi
  stop := fun i G H _ s k hi => by
    rw [rangeD_len] at hi
    exact hi
  yld := fun i G H x H' _ s k hi y => by
    obtain ⟨rfl, rfl⟩ := y
    rw [rangeD_len] at hi
    exact ⟨_, by unfold rangeD; simp [hi], .int _, s, .refl⟩
theorem it_str {K : PySem.W.Frag} {H0 : Hp} {z : Str} : ItRep K H0 (Its z) (z.cps.toList.map fun c => D.str ⟨#[c]⟩) (fun _ => True) where
  go := fun i G H _ s k hi => by
    have h : i < z.cps.size := by simpa using hi
    exact h
  stop := fun i G H _ s k hi => by
    have h : z.cps.size ≤ i := by simpa using hi
    exact h
  yld := fun i G H x H' _ s k hi y => by
    obtain ⟨rfl, c, hc, rfl⟩ := y
    exact ⟨.str ⟨#[c]⟩, by rw [List.getElem?_map, Array.getElem?_toList, hc]; rfl, .str _, s, .refl⟩
/-- a list, a tuple or a text, by itself -/
def iterD (d : D) (G : Sto) (R : IQ) : Prop := match d with
  | .tup ds => R ds (fun _ => True) G
  | .ref a => ∃ ds, G a = some (.lst ds) ∧ R ds (keepL a ds) G
  | .rl ds => R ds (fun _ => True) G
  | .str z => R (z.cps.toList.map fun c => D.str ⟨#[c]⟩) (fun _ => True) G
  | _ => False
def dIter (t : DE) : DI := fun ρ G R xq => t ρ G (fun d G1 => iterD d G1 R) xq
theorem PI.or {t t' : TI} (h : PI X tg iter t) (h' : PI X tg iter t') : PI X tg iter (fun σ H R => t σ H R ∨ t' σ H R) := ⟨fun pins s σ H R I q => by
  rcases q with q | q
  · exact h.run pins s σ H R I q
  · exact h'.run pins s σ H R I q⟩
/-- what pyIter makes of a value -/
def WIv (X : Cx) (tg : Expr) (v : V) (σ : L2.St) (H : Hp) (R : It → Hp → Prop) : Prop := ∀ pins s v', Inv X pins σ H s → RelV v v' → wpAny (model X.prog X.w) X.A (pyIter v') (PIE X pins σ tg R) X.xe s
theorem pi_any : PI X tg e (fun σ H R => WE X e σ H fun v H1 => WIv X tg v σ H1 R) := ⟨fun pins s σ H R I h => thn (h pins s I) fun v s1 ⟨x, H1, I1, r1, q1⟩ => q1 pins s1 v I1 r1⟩
/-- the second half of the rules of HandS -/
theorem iv_list {a : Addr} {vs : List V} {σ : L2.St} {H : Hp} {R : It → Hp → Prop} (h : SqL X.K H a vs) (q : R (Itl X.K a) H) : WIv X tg (.ref a) σ H R := fun pins s v' I r => by
  cases r
  obtain ⟨its, rv, p, hz⟩ := I.list h
  refine wpAny_pyIter_list p.isList ?_
  refine ⟨s.heap.objs.size, [s.heap.objs.size], _, _, H, rfl, I.kept (t' := s.toks) fun b o e => Heap.get?_push_of_some _ e, turn_list a _, ⟨_, Heap.get?_push_size _ rfl, rfl, rfl⟩, fun b hb => ?_, q⟩
  have e : b = s.heap.objs.size := by simpa using hb
  subst e
  exact I.fpOk (Nat.le_refl _) (I.hok.fresh (Nat.le_refl _))
theorem iv_tup {a : Addr} {vs : List V} {σ : L2.St} {H : Hp} {R : It → Hp → Prop} (h : SqT X.K H a vs) (q : R (Itt X.K a) H) : WIv X tg (.ref a) σ H R := fun pins s v' I r => by
  cases r
  obtain ⟨its, rv, p, hz⟩ := I.tuple h
  refine wpAny_pyIter_tuple (show s.heap.IsTuple a its.toArray from p) ?_
  refine ⟨s.heap.objs.size, [s.heap.objs.size], _, _, H, rfl, I.kept (t' := s.toks) fun b o e => Heap.get?_push_of_some _ e, turn_tuple a _, ⟨_, Heap.get?_push_size _ rfl, rfl, rfl⟩, fun b hb => ?_, q⟩
  have e : b = s.heap.objs.size := by simpa using hb
  subst e
  exact I.fpOk (Nat.le_refl _) (I.hok.fresh (Nat.le_refl _))
theorem iv_str {z : Str} {σ : L2.St} {H : Hp} {R : It → Hp → Prop} (q : R (Its z) H) : WIv X tg (.str z) σ H R := fun pins s v' I r => by
  obtain ⟨t, rfl⟩ := r
  cases ha : z.cps.all (· < 128)
  · exact wpAny_pyIter_wide ha (pi_one (tk := s.toks) I _ (turn_str _ z t "str_iterator" (.inr rfl)) ⟨_, Heap.get?_push_size _ rfl, rfl, rfl⟩ q)
  · exact wpAny_pyIter_ascii ha (pi_one (tk := s.toks) I _ (turn_str _ z t "str_ascii_iterator" (.inl rfl)) ⟨_, Heap.get?_push_size _ rfl, rfl, rfl⟩ q)
theorem qi_it (he : QE X e te) : QI X tg e (dIter te) := by
  refine ⟨fun ρ G R xq σ H h rs s tk => ?_⟩
  refine PI.wi pi_any ((he.run ρ G _ xq σ H h rs s tk).imp fun v H1 ⟨x, G1, rx, s1, e1, q1⟩ => ?_)
  have q1 : iterD x G1 R := q1
  unfold iterD at q1
  split at q1
  · cases rx with
    | tup h1 r1 => exact iv_tup h1 ⟨_, _, G1, it_tup h1 r1, s1, e1, q1⟩
  · cases rx
    obtain ⟨ds, hg, q⟩ := q1
    obtain ⟨vs, h1, r1⟩ := keepL_ hg s1
    exact iv_list h1 ⟨_, _, G1, it_list, s1, e1, q⟩
  · cases rx with
    | rl h1 r1 => exact iv_list (frz_sq h1) ⟨_, _, G1, it_rl h1 r1, s1, e1, q1⟩
  · cases rx
    exact iv_str ⟨_, _, G1, it_str, s1, e1, q1⟩
  · exact q1.elim
/-! range -/
def rng1 (ds : List D) (G : Sto) (R : IQ) : Prop := match ds with
  | [.int j] => -(2 ^ 62) ≤ j ∧ j < 2 ^ 62 ∧ R (rangeD 0 j.toNat) (fun _ => True) G
  | _ => False
def rng2 (ds : List D) (G : Sto) (R : IQ) : Prop := match ds with
  | [.int i, .int j] => (-(2 ^ 62) ≤ i ∧ i < 2 ^ 62 ∧ -(2 ^ 62) ≤ j ∧ j < 2 ^ 62) ∧ R (rangeD i (j - i).toNat) (fun _ => True) G
  | _ => False
def dItA (r : List D → Sto → IQ → Prop) (t : DA) : DI := fun ρ G R xq => t ρ G (fun ds G1 => r ds G1 R) xq
theorem qi_rng1 (hg : Gl X "range") (hm : X.mg "range" = none) (ha : QA X [a] tas) (hn : noStar a = true) : QI X tg (.Call (.Name "range" p) [a] [] pos) (dItA rng1 tas) := by
  refine ⟨fun ρ G R xq σ H h rs s tk => ?_⟩
  refine PI.wi (pi_range1 hg hm pa_max (starEach_cons hn)) ((ha.run ρ G _ xq σ H h rs s tk).imp fun vs H1 ⟨ds, G1, r1, s1, e1, q1⟩ => ?_)
  have q1 : rng1 ds G1 R := q1
  unfold rng1 at q1
  split at q1
  · obtain ⟨v, rfl, rv⟩ := r1.one
    cases rv
    exact ⟨_, rfl, q1.1, q1.2.1, _, _, G1, it_range, s1, e1, q1.2.2⟩
  · exact q1.elim
theorem qi_rng2 (hg : Gl X "range") (hm : X.mg "range" = none) (ha : QA X [a, b] tas) (hn : noStar a = true) (hn2 : noStar b = true) : QI X tg (.Call (.Name "range" p) [a, b] [] pos) (dItA rng2 tas) := by
  refine ⟨fun ρ G R xq σ H h rs s tk => ?_⟩
  refine PI.wi (pi_range2 hg hm pa_max (by rw [starEach_cons hn, starEach_cons hn2]; rfl) (starEach_cons hn2)) ((ha.run ρ G _ xq σ H h rs s tk).imp fun vs H1 ⟨ds, G1, r1, s1, e1, q1⟩ => ?_)
  have q1 : rng2 ds G1 R := q1
  unfold rng2 at q1
  split at q1
  · obtain ⟨v, u, rfl, rv, ru⟩ := r1.two
    cases rv; cases ru
    exact ⟨_, _, rfl, q1.1, _, _, G1, it_range, s1, e1, q1.2⟩
  · exact q1.elim
/-! enumerate of a list -/
def enumD (ds : List D) : List D := ds.mapIdx fun i d => D.tup [.int (i : Nat), d]
theorem enumD_len (ds : List D) : (enumD ds).length = ds.length := by unfold enumD; simp
theorem it_enum {K : PySem.W.Frag} {H0 : Hp} {a : Addr} {ds : List D} : ItRep K H0 (Ite K a) (enumD ds) (keepL a ds) where
  go := fun i G H _ s k hi => by
    rw [enumD_len] at hi
    obtain ⟨vs, h, r⟩ := keepL_ k s
    obtain ⟨v, hv, _⟩ := r.get (List.getElem?_eq_getElem hi)
    exact ⟨vs, v, h, hv⟩
  stop := fun i G H _ s k hi => by
    rw [enumD_len] at hi
    obtain ⟨vs, h, r⟩ := keepL_ k s
    exact ⟨vs, h, by rw [r.length]; exact hi⟩
  yld := fun i G H x H' _ s k hi y => by
    obtain ⟨vs, h, r⟩ := keepL_ k s
    obtain ⟨T, z, rfl, hT, rfl, hy⟩ := y
    obtain ⟨d, hd, rd⟩ := r.getV (hy vs h)
    refine ⟨.tup [.int (i : Nat), d], ?_, .tup (.of upd_same) (.cons (.int _) (.cons (rd.mono (tup_new hT)) .nil)), s.newT hT, .newT hT⟩
    unfold enumD
    rw [List.getElem?_mapIdx, hd]
    rfl
theorem it_enumT {K : PySem.W.Frag} {H0 : Hp} {a : Addr} {vs : List V} {ds : List D} (h0 : SqT K H0 a vs) (r0 : Reps K H0 vs ds) : ItRep K H0 (Itet K a) (enumD ds) (fun _ => True) where
  go := fun i G H t s k hi => by
    rw [enumD_len] at hi
    obtain ⟨v, hv, _⟩ := r0.get (List.getElem?_eq_getElem hi)
    exact ⟨vs, v, t.t _ _ h0, hv⟩
  stop := fun i G H t s k hi => by
    rw [enumD_len] at hi
    exact ⟨vs, t.t _ _ h0, by rw [r0.length]; exact hi⟩
  yld := fun i G H x H' t s k hi y => by
    obtain ⟨T, z, rfl, hT, rfl, hy⟩ := y
    obtain ⟨d, hd, rd⟩ := r0.getV (hy vs (t.t _ _ h0))
    refine ⟨.tup [.int (i : Nat), d], ?_, .tup (.of upd_same) (.cons (.int _) (.cons ((rd.mono t).mono (tup_new hT)) .nil)), s.newT hT, .newT hT⟩
    unfold enumD
    rw [List.getElem?_mapIdx, hd]
    rfl
theorem it_enumV {K : PySem.W.Frag} {H0 : Hp} {a : Addr} {o : Obj} {vs : List V} {ds : List D} (h0 : H0 a = some (.frz o (.lst vs))) (r0 : Reps K H0 vs ds) : ItRep K H0 (Ite K a) (enumD ds) (fun _ => True) where
  go := fun i G H t s k hi => by
    rw [enumD_len] at hi
    obtain ⟨v, hv, _⟩ := r0.get (List.getElem?_eq_getElem hi)
    exact ⟨vs, v, frz_sq (t.d _ _ _ h0), hv⟩
  stop := fun i G H t s k hi => by
    rw [enumD_len] at hi
    exact ⟨vs, frz_sq (t.d _ _ _ h0), by rw [r0.length]; exact hi⟩
  yld := fun i G H x H' t s k hi y => by
    obtain ⟨T, z, rfl, hT, rfl, hy⟩ := y
    obtain ⟨d, hd, rd⟩ := r0.getV (hy vs (frz_sq (t.d _ _ _ h0)))
    refine ⟨.tup [.int (i : Nat), d], ?_, .tup (.of upd_same) (.cons (.int _) (.cons ((rd.mono t).mono (tup_new hT)) .nil)), s.newT hT, .newT hT⟩
    unfold enumD
    rw [List.getElem?_mapIdx, hd]
    rfl
def enm (ds : List D) (G : Sto) (R : IQ) : Prop := match ds with
  | [.ref a] => ∃ xs, G a = some (.lst xs) ∧ R (enumD xs) (keepL a xs) G
  | [.tup xs] => R (enumD xs) (fun _ => True) G
  | [.rl xs] => R (enumD xs) (fun _ => True) G
  | _ => False
theorem qi_enum {elts : List Expr} {kk : Nat} {tpos : Pos} (hg : Gl X "enumerate") (hm : X.mg "enumerate" = none) (ha : QA X [a] tas) (hn : noStar a = true) : QI X (.Tuple elts kk tpos) (.Call (.Name "enumerate" p) [a] [] pos) (dItA enm tas) := by
  refine ⟨fun ρ G R xq σ H h rs s tk => ?_⟩
  have two : PI X (.Tuple elts kk tpos) (.Call (.Name "enumerate" p) [a] [] pos) (fun σ H R => WA X [a] σ H fun vs H1 => (∃ a xs, vs = [.ref a] ∧ SqL X.K H1 a xs ∧ R (Ite X.K a) H1) ∨ ∃ a xs, vs = [.ref a] ∧ SqT X.K H1 a xs ∧ R (Itet X.K a) H1) := pi_enB hg hm pa_max (starEach_cons hn)
  refine PI.wi two ((ha.run ρ G _ xq σ H h rs s tk).imp fun vs H1 ⟨ds, G1, r1, s1, e1, q1⟩ => ?_)
  have q1 : enm ds G1 R := q1
  unfold enm at q1
  split at q1
  · obtain ⟨v, rfl, rv⟩ := r1.one
    cases rv
    obtain ⟨xs, hg, q⟩ := q1
    obtain ⟨vs, h1, r2⟩ := keepL_ hg s1
    exact .inl ⟨_, vs, rfl, h1, _, _, G1, it_enum, s1, e1, q⟩
  · obtain ⟨v, rfl, rv⟩ := r1.one
    cases rv with
    | tup h1 r2 => exact .inr ⟨_, _, rfl, h1, _, _, G1, it_enumT h1 r2, s1, e1, q1⟩
  · obtain ⟨v, rfl, rv⟩ := r1.one
    cases rv with
    | rl h1 r2 => exact .inl ⟨_, _, rfl, frz_sq h1, _, _, G1, it_enumV h1 r2, s1, e1, q1⟩
  · exact q1.elim
/-! zip of two lists, of two tuples -/
def zipD (xs ys : List D) : List D := List.zipWith (fun x y => D.tup [x, y]) xs ys
theorem zipD_len (xs ys : List D) : (zipD xs ys).length = min xs.length ys.length := by unfold zipD; rw [List.length_zipWith]
theorem it_zip {K : PySem.W.Frag} {H0 : Hp} {a b : Addr} {xs ys : List D} : ItRep K H0 (Itz K a b) (zipD xs ys) (fun G => keepL a xs G ∧ keepL b ys G) where
  go := fun i G H _ s k hi => by
    rw [zipD_len] at hi
    obtain ⟨vs, h, r⟩ := keepL_ k.1 s
    obtain ⟨us, h', r'⟩ := keepL_ k.2 s
    obtain ⟨v, hv, _⟩ := r.get (List.getElem?_eq_getElem (show i < xs.length by omega))
    obtain ⟨u, hu, _⟩ := r'.get (List.getElem?_eq_getElem (show i < ys.length by omega))
    exact ⟨vs, us, v, u, h, h', hv, hu⟩
  stop := fun i G H _ s k hi => by
    rw [zipD_len] at hi
    obtain ⟨vs, h, r⟩ := keepL_ k.1 s
    obtain ⟨us, h', r'⟩ := keepL_ k.2 s
    refine ⟨vs, us, h, h', ?_⟩
    rw [r.length, r'.length]
    omega
  yld := fun i G H x H' _ s k hi y => by
    obtain ⟨vs, h, r⟩ := keepL_ k.1 s
    obtain ⟨us, h', r'⟩ := keepL_ k.2 s
    obtain ⟨T, z, z', rfl, hT, rfl, hy, hy'⟩ := y
    obtain ⟨d, hd, rd⟩ := r.getV (hy vs h)
    obtain ⟨d', hd', rd'⟩ := r'.getV (hy' us h')
    refine ⟨.tup [d, d'], ?_, .tup (.of upd_same) (.cons (rd.mono (tup_new hT)) (.cons (rd'.mono (tup_new hT)) .nil)), s.newT hT, .newT hT⟩
    unfold zipD
    rw [List.getElem?_zipWith, hd, hd']
theorem it_zipT {K : PySem.W.Frag} {H0 : Hp} {a b : Addr} {vs us : List V} {xs ys : List D} (h0 : SqT K H0 a vs) (r : Reps K H0 vs xs) (h0' : SqT K H0 b us) (r' : Reps K H0 us ys) : ItRep K H0 (ItzT K a b) (zipD xs ys) (fun _ => True) where
  go := fun i G H t s k hi => by
    rw [zipD_len] at hi
    obtain ⟨v, hv, _⟩ := r.get (List.getElem?_eq_getElem (show i < xs.length by omega))
    obtain ⟨u, hu, _⟩ := r'.get (List.getElem?_eq_getElem (show i < ys.length by omega))
    exact ⟨vs, us, v, u, t.t _ _ h0, t.t _ _ h0', hv, hu⟩
  stop := fun i G H t s k hi => by
    rw [zipD_len] at hi
    refine ⟨vs, us, t.t _ _ h0, t.t _ _ h0', ?_⟩
    rw [r.length, r'.length]
    omega
  yld := fun i G H x H' t s k hi y => by
    obtain ⟨T, z, z', rfl, hT, rfl, hy, hy'⟩ := y
    obtain ⟨d, hd, rd⟩ := r.getV (hy vs (t.t _ _ h0))
    obtain ⟨d', hd', rd'⟩ := r'.getV (hy' us (t.t _ _ h0'))
    refine ⟨.tup [d, d'], ?_, .tup (.of upd_same) (.cons ((rd.mono t).mono (tup_new hT)) (.cons ((rd'.mono t).mono (tup_new hT)) .nil)), s.newT hT, .newT hT⟩
    unfold zipD
    rw [List.getElem?_zipWith, hd, hd']
theorem it_zipV {K : PySem.W.Frag} {H0 : Hp} {a b : Addr} {o o' : Obj} {vs us : List V} {xs ys : List D} (h0 : H0 a = some (.frz o (.lst vs))) (r : Reps K H0 vs xs) (h0' : H0 b = some (.frz o' (.lst us))) (r' : Reps K H0 us ys) : ItRep K H0 (Itz K a b) (zipD xs ys) (fun _ => True) where
  go := fun i G H t s k hi => by
    rw [zipD_len] at hi
    obtain ⟨v, hv, _⟩ := r.get (List.getElem?_eq_getElem (show i < xs.length by omega))
    obtain ⟨u, hu, _⟩ := r'.get (List.getElem?_eq_getElem (show i < ys.length by omega))
    exact ⟨vs, us, v, u, frz_sq (t.d _ _ _ h0), frz_sq (t.d _ _ _ h0'), hv, hu⟩
  stop := fun i G H t s k hi => by
    rw [zipD_len] at hi
    refine ⟨vs, us, frz_sq (t.d _ _ _ h0), frz_sq (t.d _ _ _ h0'), ?_⟩
    rw [r.length, r'.length]
    omega
  yld := fun i G H x H' t s k hi y => by
    obtain ⟨T, z, z', rfl, hT, rfl, hy, hy'⟩ := y
    obtain ⟨d, hd, rd⟩ := r.getV (hy vs (frz_sq (t.d _ _ _ h0)))
    obtain ⟨d', hd', rd'⟩ := r'.getV (hy' us (frz_sq (t.d _ _ _ h0')))
    refine ⟨.tup [d, d'], ?_, .tup (.of upd_same) (.cons ((rd.mono t).mono (tup_new hT)) (.cons ((rd'.mono t).mono (tup_new hT)) .nil)), s.newT hT, .newT hT⟩
    unfold zipD
    rw [List.getElem?_zipWith, hd, hd']
def zpp (ds : List D) (G : Sto) (R : IQ) : Prop := match ds with
  | [.ref a, .ref b] => ∃ xs ys, G a = some (.lst xs) ∧ G b = some (.lst ys) ∧ R (zipD xs ys) (fun G => keepL a xs G ∧ keepL b ys G) G
  | [.tup xs, .tup ys] => R (zipD xs ys) (fun _ => True) G
  | [.rl xs, .rl ys] => R (zipD xs ys) (fun _ => True) G
  | _ => False
theorem qi_zip {elts : List Expr} {kk : Nat} {tpos : Pos} (hg : Gl X "zip") (hm : X.mg "zip" = none) (ha : QA X [a, b] tas) (hn : noStar a = true) (hn2 : noStar b = true) : QI X (.Tuple elts kk tpos) (.Call (.Name "zip" p) [a, b] [] pos) (dItA zpp tas) := by
  refine ⟨fun ρ G R xq σ H h rs s tk => ?_⟩
  refine PI.wi (pi_zipA hg hm pa_max (starEach_cons hn) (starEach_any (es := [b]) (by simp [hn2]) _)) ((ha.run ρ G _ xq σ H h rs s tk).imp fun vs H1 ⟨ds, G1, r1, s1, e1, q1⟩ => ?_)
  have q1 : zpp ds G1 R := q1
  unfold zpp at q1
  split at q1
  · obtain ⟨v, u, rfl, rv, ru⟩ := r1.two
    cases rv; cases ru
    obtain ⟨xs, ys, h1, h2, q⟩ := q1
    obtain ⟨vs, h3, r3⟩ := keepL_ h1 s1
    obtain ⟨us, h4, r4⟩ := keepL_ h2 s1
    exact ⟨_, _, vs, us, rfl, .inl ⟨h3, h4, _, _, G1, it_zip, s1, e1, q⟩⟩
  · obtain ⟨v, u, rfl, rv, ru⟩ := r1.two
    cases rv with
    | tup h3 r3 =>
      cases ru with
      | tup h4 r4 => exact ⟨_, _, _, _, rfl, .inr ⟨h3, h4, _, _, G1, it_zipT h3 r3 h4 r4, s1, e1, q1⟩⟩
  · obtain ⟨v, u, rfl, rv, ru⟩ := r1.two
    cases rv with
    | rl h3 r3 =>
      cases ru with
      | rl h4 r4 => exact ⟨_, _, _, _, rfl, .inl ⟨frz_sq h3, frz_sq h4, _, _, G1, it_zipV h3 r3 h4 r4, s1, e1, q1⟩⟩
  · exact q1.elim
end
end DL

namespace DL
open PySem PySem.Spec PyProof.Rows L2
abbrev EX := Exn → Ev → Sto → Prop
structure DEnds where
  nx : Ev → Sto → Prop
  rt : DQ
  bk : Ev → Sto → Prop := fun _ _ => False
  ct : Ev → Sto → Prop := fun _ _ => False
  ex : EX := fun _ _ _ => False
abbrev DS := DEnds → Ev → Sto → Prop
abbrev NQ := Ev → Sto → Prop
abbrev DG := D → Ev → Sto → NQ → EX → Prop
def TkS (X : Cx) (G : Sto) (H : Hp) (ex : EX) : Prop :=
  ∀ x σ' ρ' cls d G' H', RepS X.K H' σ' ρ' → ExnRep X.K H' cls d x → Sim X.K G' H' → Ext X.K G H G' H' → ex x ρ' G' → XW X cls d σ' H'
theorem TkS.step {X : Cx} {G G1 : Sto} {H H1 : Hp} {ex : EX} (t : TkS X G H ex) (e : Ext X.K G H G1 H1) : TkS X G1 H1 ex :=
  fun x σ' ρ' cls d G' H' r xr s y q => t x σ' ρ' cls d G' H' r xr s (e.trans y) q
theorem TkS.tk {X : Cx} {G : Sto} {H : Hp} {ex : EX} {σ : L2.St} {ρ : Ev} (t : TkS X G H ex) (r : RepS X.K H σ ρ) : Tk X σ G H (fun x G' => ex x ρ G') :=
  fun x cls d G' H' xr s y q => t x σ ρ cls d G' H' (r.mono y.tup) xr s y q
theorem TkS.never {X : Cx} {G : Sto} {H : Hp} : TkS X G H (fun _ _ _ => False) := fun _ _ _ _ _ _ _ _ _ _ _ q => q.elim
def WG (X : Cx) (tg : Expr) : TG := fun v σ H Q => ∀ pins s u, Inv X pins σ H s → RelV v u → wpAny (model X.prog X.w) X.A (assign tg X.env u) (fun _ s' => ∃ σ' H', Inv X pins σ' H' s' ∧ Q σ' H') X.xe s
def WGs (X : Cx) (ts : List Expr) : TGs := fun vs σ H Q => ∀ pins s us, Inv X pins σ H s → Vals vs us → wpAny (model X.prog X.w) X.A (assignInOrder ((assignEach ts X.env).map (·.2)) us) (fun _ s' => ∃ σ' H', Inv X pins σ' H' s' ∧ Q σ' H') X.xe s
/-- the slots outside S stay -/
def Only (S : List Nat) (σ σ' : L2.St) : Prop := σ'.length = σ.length ∧ ∀ j, j ∉ S → σ'[j]? = σ[j]?
theorem Only.refl {S : List Nat} {σ : L2.St} : Only S σ σ := ⟨rfl, fun _ _ => rfl⟩
theorem Only.trans {S : List Nat} {σ σ1 σ2 : L2.St} (a : Only S σ σ1) (b : Only S σ1 σ2) : Only S σ σ2 := ⟨b.1.trans a.1, fun j h => (b.2 j h).trans (a.2 j h)⟩
theorem Only.mono {S S' : List Nat} {σ σ1 : L2.St} (a : Only S σ σ1) (h : ∀ j ∈ S, j ∈ S') : Only S' σ σ1 := ⟨a.1, fun j q => a.2 j fun z => q (h j z)⟩
def LiftN (K : PySem.W.Frag) (S : List Nat) (σ : L2.St) (G : Sto) (H : Hp) (Q : NQ) : L2.St → Hp → Prop := fun σ' H' => Only S σ σ' ∧ ∃ ρ' G', RepS K H' σ' ρ' ∧ Sim K G' H' ∧ Ext K G H G' H' ∧ Q ρ' G'
structure QG (X : Cx) (tg : Expr) (S : List Nat) (t : DG) : Prop where
  run : ∀ d ρ G Q ex v σ H, t d ρ G Q ex → Rep X.K H v d → RepS X.K H σ ρ → Sim X.K G H → TkS X G H ex → WG X tg v σ H (LiftN X.K S σ G H Q)
abbrev DGs := List D → Ev → Sto → NQ → EX → Prop
structure QGs (X : Cx) (ts : List Expr) (S : List Nat) (t : DGs) : Prop where
  run : ∀ ds ρ G Q ex vs σ H, t ds ρ G Q ex → Reps X.K H vs ds → RepS X.K H σ ρ → Sim X.K G H → TkS X G H ex → WGs X ts vs σ H (LiftN X.K S σ G H Q)
section
variable {X : Cx} {tg e o i : Expr} {es : List Expr} {S S' : List Nat} {pos : Pos} {te to ti : DE}
theorem pg_max : PG X tg (WG X tg) := ⟨fun pins s σ H v u Q I r h => h pins s u I r⟩
theorem pgs_max : PGs X es (WGs X es) := ⟨fun pins s σ H vs us Q I r h => h pins s us I r⟩
theorem PG.wg {t : TG} {v : V} {σ : L2.St} {H : Hp} {Q : L2.St → Hp → Prop} (h : PG X tg t) (q : t v σ H Q) : WG X tg v σ H Q := fun pins s u I r => h.run pins s σ H v u Q I r q
theorem PGs.wg {t : TGs} {v : List V} {σ : L2.St} {H : Hp} {Q : L2.St → Hp → Prop} (h : PGs X es t) (q : t v σ H Q) : WGs X es v σ H Q := fun pins s u I r => h.run pins s σ H v u Q I r q
theorem WG.imp {v : V} {σ : L2.St} {H : Hp} {Q Q' : L2.St → Hp → Prop} (h : WG X tg v σ H Q) (i : ∀ σ' H', Q σ' H' → Q' σ' H') : WG X tg v σ H Q' := fun pins s u I r => thn (h pins s u I r) fun _ _ ⟨σ', H', I', q⟩ => ⟨σ', H', I', i _ _ q⟩
theorem WGs.imp {v : List V} {σ : L2.St} {H : Hp} {Q Q' : L2.St → Hp → Prop} (h : WGs X es v σ H Q) (i : ∀ σ' H', Q σ' H' → Q' σ' H') : WGs X es v σ H Q' := fun pins s u I r => thn (h pins s u I r) fun _ _ ⟨σ', H', I', q⟩ => ⟨σ', H', I', i _ _ q⟩
/-- a name -/
def gNm (i : Nat) : DG := fun d ρ G Q _ => Q (ρ.set i (some d)) G
theorem qg_name {i : Nat} {x : Str} (hN : X.N.Nodup) (hi : X.N[i]? = some x) (hx : Loc X.env.scope x) (hf : X.fn x = true ∨ X.env.scope.names.lookup x = some .local) : QG X (.Name x pos) [i] (gNm i) := by
  refine ⟨fun d ρ G Q ex v σ H h r rs s tk => ?_⟩
  refine PG.wg (pg_name hN hi hx hf) ⟨⟨by rw [List.length_set], fun j hj => ?_⟩, _, G, rs.set i r, s, .refl, h⟩
  rw [List.getElem?_set_ne]
  intro e
  exact hj (by simp [e])
def gNl : DGs := fun ds ρ G Q _ => match ds with
  | [] => Q ρ G
  | _ => False
def gCs (t : DG) (u : DGs) : DGs := fun ds ρ G Q ex => match ds with
  | d :: r => t d ρ G (fun ρ' G' => u r ρ' G' Q ex) ex
  | [] => False
theorem qgs_nil : QGs X [] S gNl := by
  refine ⟨fun ds ρ G Q ex vs σ H h r rs s tk => ?_⟩
  unfold gNl at h
  split at h
  · cases r
    exact PGs.wg pgs_nil ⟨rfl, .refl, ρ, G, rs, s, .refl, h⟩
  · exact h.elim
theorem assignEach_cons {e : Expr} {es : List Expr} {env : PySem.Env} (h : noStar e = true) : assignEach (e :: es) env = (false, assign e env) :: assignEach es env := by
  cases e <;> first | rfl | cases h
theorem qgs_cons {t : DG} {u : DGs} (h1 : QG X e S t) (h2 : QGs X es S' u) (hn : noStar e = true) : QGs X (e :: es) (S ++ S') (gCs t u) := by
  refine ⟨fun ds ρ G Q ex vs σ H h r rs s tk => ?_⟩
  cases ds with
  | nil => exact False.elim h
  | cons d ds =>
    cases r with
    | cons r1 r2 =>
      refine PGs.wg (pgs_cons pg_max pgs_max (by rw [assignEach_cons hn]; rfl)) ⟨_, _, rfl, ?_⟩
      refine (h1.run d ρ G _ ex _ σ H h r1 rs s tk).imp fun σ1 H1 ⟨o1, ρ1, G1, rs1, s1, e1, q1⟩ => ?_
      refine (h2.run ds ρ1 G1 Q ex _ σ1 H1 q1 (r2.mono e1.tup) rs1 s1 (tk.step e1)).imp fun σ2 H2 ⟨o2, ρ2, G2, rs2, s2, e2, q2⟩ => ?_
      exact ⟨(o1.mono fun j z => List.mem_append_left _ z).trans (o2.mono fun j z => List.mem_append_right _ z), ρ2, G2, rs2, s2, e1.trans e2, q2⟩
/-- a tuple of targets: a tuple, or a list, of that length -/
def gTp (n : Nat) (u : DGs) : DG := fun d ρ G Q ex => seqD d G fun ds => ds.length = n ∧ u ds ρ G Q ex
theorem assignEach_len {env : PySem.Env} : ∀ {es : List Expr}, es.all noStar = true → (assignEach es env).length = es.length ∧ (assignEach es env).findIdx? (·.1) = none
  | [], _ => ⟨rfl, rfl⟩
  | e :: es, h => by
    rw [List.all_cons, Bool.and_eq_true] at h
    obtain ⟨h1, h2⟩ := assignEach_len (env := env) h.2
    rw [assignEach_cons h.1]
    refine ⟨by simp [h1], ?_⟩
    rw [List.findIdx?_cons, h2]
    rfl
theorem qg_tup {u : DGs} {k : Nat} (hc : X.calm = true) (h : QGs X es S u) (hn : es.all noStar = true) : QG X (.Tuple es k pos) S (gTp es.length u) := by
  refine ⟨fun d ρ G Q ex v σ H hq r rs s tk => ?_⟩
  obtain ⟨hl, hf⟩ := assignEach_len (env := X.env) hn
  obtain ⟨p, vs, ds, rfl, h1 | h1, r1, hlen, q⟩ := seq_ hq r s
  · exact PG.wg (pg_lst hc pgs_max hl hf) ⟨p, vs, rfl, h1, by rw [r1.length]; exact hlen, h.run ds ρ G Q ex vs σ H q r1 rs s tk⟩
  · exact PG.wg (pg_tup hc pgs_max hl hf) ⟨p, vs, rfl, h1, by rw [r1.length]; exact hlen, h.run ds ρ G Q ex vs σ H q r1 rs s tk⟩
/-- o[i] = v, o a list -/
def setD (x y d : D) (G : Sto) (Q : Sto → Prop) : Prop := match x, y with
  | .ref p, .int k => ∃ xs j, G p = some (.lst xs) ∧ ixN xs.length k = some j ∧ Q (put G p (.lst (xs.set j d)))
  | .ref p, .str k => ∃ kvs, G p = some (.dK kvs) ∧ kvs.length < sizeLine ∧ Q (put G p (.dK (putD kvs (.inr k) d)))
  | _, _ => False
theorem PSet.or {t t' : TSet} (h : PSet X t) (h' : PSet X t') : PSet X (fun o i v H Q => t o i v H Q ∨ t' o i v H Q) := by
  intro pins s σ H o i v ov iv u Q I ro ri rv q
  rcases q with q | q
  · exact h pins s σ H o i v ov iv u Q I ro ri rv q
  · exact h' pins s σ H o i v ov iv u Q I ro ri rv q
def gSb (to ti : DE) : DG := fun d ρ G Q ex => to ρ G (fun x G1 => ti ρ G1 (fun y G2 => setD x y d G2 (Q ρ)) (fun z => ex z ρ)) (fun z => ex z ρ)
def plainSub : Expr → Bool
  | .Slice .. => false
  | _ => true
theorem qg_sub (hu : X.A.units + 64 < cLine) (ho : QE X o to) (hi : QE X i ti) (hp : plainSub i = true) : QG X (.Subscript o i pos) S (gSb to ti) := by
  refine ⟨fun d ρ G Q ex v σ H h r rs s tk => ?_⟩
  refine PG.wg (pg_sub pe_max pe_max (PSet.or set_list (set_dict (by omega))) (fun v => by cases i <;> first | rfl | cases hp)) ?_
  refine (ho.run ρ G _ _ σ H h rs s (tk.tk rs)).imp fun v1 H1 ⟨x, G1, rx, s1, e1, q1⟩ => ?_
  refine (hi.run ρ G1 _ _ σ H1 q1 (rs.mono e1.tup) s1 ((tk.tk rs).step e1)).imp fun v2 H2 ⟨y, G2, ry, s2, e2, q2⟩ => ?_
  have rx := rx.mono e2.tup
  have q2 : setD x y d G2 (Q ρ) := q2
  unfold setD at q2
  split at q2
  · cases rx; cases ry
    obtain ⟨xs, j, g, hj, q⟩ := q2
    obtain ⟨vs, h1, r1⟩ := s2 _ _ g
    have e12 := e1.trans e2
    have t3 : TupExt X.K H2 (upd H2 _ (.lst (vs.set j v))) := tup_mut h1 rfl
    refine .inl ⟨_, vs, _, j, rfl, rfl, h1, by rw [r1.length]; exact hj, .refl, ρ, put G2 _ (.lst (xs.set j d)), (rs.mono e12.tup).mono t3, s2.mut (c0 := .lst xs) h1 rfl ⟨_, upd_same, (r1.set (r.mono e12.tup) j).mono t3⟩, e12.trans (.mut g h1 rfl), q⟩
  · cases rx; cases ry
    rename_i p k _ _ _
    obtain ⟨kvs, g, hl, q⟩ := q2
    obtain ⟨m, h1, r1⟩ := s2 _ _ g
    have e12 := e1.trans e2
    refine .inr ⟨_, _, rfl, DPut.k (k := .inr k) h1 (by rw [r1.length]; exact hl), ?_⟩
    have t3 : TupExt X.K H2 (upd H2 p (.dK (putK m (.inr k) v))) := tup_mut h1 rfl
    exact ⟨.refl, ρ, put G2 _ (.dK (putD kvs (.inr k) d)), (rs.mono e12.tup).mono t3, s2.mut (c0 := .dK kvs) h1 rfl ⟨_, upd_same, (r1.put (r.mono e12.tup)).mono t3⟩, e12.trans (.mut g h1 rfl), q⟩
  · exact q2.elim
def dsetD (x y d : D) (G : Sto) (Q : Sto → Prop) : Prop := match x with
  | .ref p => ∃ kvs k, G p = some (.dK kvs) ∧ keyD y = some k ∧ kvs.length < sizeLine ∧ Q (put G p (.dK (putD kvs k d)))
  | _ => False
def gDs (to ti : DE) : DG := fun d ρ G Q ex => to ρ G (fun x G1 => ti ρ G1 (fun y G2 => dsetD x y d G2 (Q ρ)) (fun z => ex z ρ)) (fun z => ex z ρ)
theorem qg_dsub (hu : X.A.units + 64 < cLine) (ho : QE X o to) (hi : QE X i ti) (hp : plainSub i = true) : QG X (.Subscript o i pos) S (gDs to ti) := by
  refine ⟨fun d ρ G Q ex v σ H h r rs s tk => ?_⟩
  refine PG.wg (pg_sub pe_max pe_max (set_dict (by omega)) (fun v => by cases i <;> first | rfl | cases hp)) ?_
  refine (ho.run ρ G _ _ σ H h rs s (tk.tk rs)).imp fun v1 H1 ⟨x, G1, rx, s1, e1, q1⟩ => ?_
  refine (hi.run ρ G1 _ _ σ H1 q1 (rs.mono e1.tup) s1 ((tk.tk rs).step e1)).imp fun v2 H2 ⟨y, G2, ry, s2, e2, q2⟩ => ?_
  have rx := rx.mono e2.tup
  have q2 : dsetD x y d G2 (Q ρ) := q2
  unfold dsetD at q2
  split at q2
  · cases rx
    obtain ⟨kvs, k, g, hk, hl, q⟩ := q2
    obtain ⟨m, h1, r1⟩ := s2 _ _ g
    obtain rfl := keyD_rep hk ry
    have e12 := e1.trans e2
    refine ⟨_, _, rfl, DPut.k h1 (by rw [r1.length]; exact hl), ?_⟩
    have t3 : TupExt X.K H2 (upd H2 _ (.dK (putK m k v))) := tup_mut h1 rfl
    exact ⟨.refl, ρ, put G2 _ (.dK (putD kvs k d)), (rs.mono e12.tup).mono t3, s2.mut (c0 := .dK kvs) h1 rfl ⟨_, upd_same, (r1.put (r.mono e12.tup)).mono t3⟩, e12.trans (.mut g h1 rfl), q⟩
  · exact q2.elim
/-! statements -/
def WS (X : Cx) (st : Stmt) : TS := fun D σ H => ∀ pins s, Inv X pins σ H s → wpAny (model X.prog X.w) X.A (exec st X.env) (SP X pins D) X.xe s
def WSs (X : Cx) (st : List Stmt) : TS := fun D σ H => ∀ pins s, Inv X pins σ H s → wpAny (model X.prog X.w) X.A (execs st X.env) (SP X pins D) X.xe s
def LiftP (K : PySem.W.Frag) (G : Sto) (H : Hp) (Q : NQ) : L2.St → Hp → Prop := fun σ' H' => ∃ ρ' G', RepS K H' σ' ρ' ∧ Sim K G' H' ∧ Ext K G H G' H' ∧ Q ρ' G'
def LiftS (K : PySem.W.Frag) (G : Sto) (H : Hp) (D : DEnds) : Ends := ⟨LiftP K G H D.nx, Lift K G H D.rt, LiftP K G H D.bk, LiftP K G H D.ct⟩
structure QS (X : Cx) (st : Stmt) (t : DS) : Prop where
  run : ∀ (D : DEnds) ρ G σ H, t D ρ G → RepS X.K H σ ρ → Sim X.K G H → TkS X G H D.ex → WS X st (LiftS X.K G H D) σ H
structure QB (X : Cx) (st : List Stmt) (t : DS) : Prop where
  run : ∀ (D : DEnds) ρ G σ H, t D ρ G → RepS X.K H σ ρ → Sim X.K G H → TkS X G H D.ex → WSs X st (LiftS X.K G H D) σ H
variable {st : Stmt} {sts : List Stmt} {t u : DS} {c : Expr} {tc : DT}
theorem ps_max : PS X st (WS X st) := ⟨fun pins s σ H D I h => h pins s I⟩
theorem pss_max : PSs X sts (WSs X sts) := ⟨fun pins s σ H D I h => h pins s I⟩
theorem PS.ws {t : TS} {D : Ends} {σ : L2.St} {H : Hp} (h : PS X st t) (q : t D σ H) : WS X st D σ H := fun pins s I => h.run pins s σ H D I q
theorem PSs.ws {t : TS} {D : Ends} {σ : L2.St} {H : Hp} (h : PSs X sts t) (q : t D σ H) : WSs X sts D σ H := fun pins s I => h.run pins s σ H D I q
theorem SP.imp {pins : List (Addr × Obj)} {D D' : Ends} (h1 : ∀ σ H, D.nx σ H → D'.nx σ H) (h2 : ∀ v H, D.rt v H → D'.rt v H) (h3 : ∀ σ H, D.bk σ H → D'.bk σ H) (h4 : ∀ σ H, D.ct σ H → D'.ct σ H) {f : Flow} {s' : Shared} (h : SP X pins D f s') : SP X pins D' f s' := by
  cases f with
  | next => obtain ⟨σ, H, I, q⟩ := h; exact ⟨σ, H, I, h1 _ _ q⟩
  | brk => obtain ⟨σ, H, I, q⟩ := h; exact ⟨σ, H, I, h3 _ _ q⟩
  | cont => obtain ⟨σ, H, I, q⟩ := h; exact ⟨σ, H, I, h4 _ _ q⟩
  | ret u => obtain ⟨v, σ, H, I, r, q⟩ := h; exact ⟨v, σ, H, I, r, h2 _ _ q⟩
theorem WS.imp {D D' : Ends} {σ : L2.St} {H : Hp} (h : WS X st D σ H) (h1 : ∀ σ H, D.nx σ H → D'.nx σ H) (h2 : ∀ v H, D.rt v H → D'.rt v H) (h3 : ∀ σ H, D.bk σ H → D'.bk σ H) (h4 : ∀ σ H, D.ct σ H → D'.ct σ H) : WS X st D' σ H :=
  fun pins s I => thn (h pins s I) fun _ _ q => SP.imp h1 h2 h3 h4 q
theorem WSs.imp {D D' : Ends} {σ : L2.St} {H : Hp} (h : WSs X sts D σ H) (h1 : ∀ σ H, D.nx σ H → D'.nx σ H) (h2 : ∀ v H, D.rt v H → D'.rt v H) (h3 : ∀ σ H, D.bk σ H → D'.bk σ H) (h4 : ∀ σ H, D.ct σ H → D'.ct σ H) : WSs X sts D' σ H :=
  fun pins s I => thn (h pins s I) fun _ _ q => SP.imp h1 h2 h3 h4 q
theorem LiftP.back {K : PySem.W.Frag} {G G1 : Sto} {H H1 : Hp} {Q : NQ} (x : Ext K G H G1 H1) : ∀ σ' H', LiftP K G1 H1 Q σ' H' → LiftP K G H Q σ' H' :=
  fun _ _ ⟨ρ, G', r, s, e, q⟩ => ⟨ρ, G', r, s, x.trans e, q⟩
theorem WSs.back {G G1 : Sto} {H H1 : Hp} {D : DEnds} {σ : L2.St} (x : Ext X.K G H G1 H1) (h : WSs X sts (LiftS X.K G1 H1 D) σ H1) : WSs X sts (LiftS X.K G H D) σ H1 :=
  h.imp (LiftP.back x) (Lift.back x) (LiftP.back x) (LiftP.back x)
theorem WS.back {G G1 : Sto} {H H1 : Hp} {D : DEnds} {σ : L2.St} (x : Ext X.K G H G1 H1) (h : WS X st (LiftS X.K G1 H1 D) σ H1) : WS X st (LiftS X.K G H D) σ H1 :=
  h.imp (LiftP.back x) (Lift.back x) (LiftP.back x) (LiftP.back x)
def sNext : DS := fun D ρ G => D.nx ρ G
def sSeq (t u : DS) : DS := fun D ρ G => t { D with nx := u D } ρ G
theorem qb_nil : QB X [] sNext := ⟨fun D ρ G σ H h rs s tk => PSs.ws pss_nil ⟨ρ, G, rs, s, .refl, h⟩⟩
theorem qb_cons (h1 : QS X st t) (h2 : QB X sts u) : QB X (st :: sts) (sSeq t u) := by
  refine ⟨fun D ρ G σ H h rs s tk => ?_⟩
  refine PSs.ws (pss_cons ps_max pss_max) ?_
  refine (h1.run { D with nx := u D } ρ G σ H h rs s tk).imp (fun σ1 H1 ⟨ρ1, G1, rs1, s1, e1, q1⟩ => ?_) (fun _ _ q => q) (fun _ _ q => q) (fun _ _ q => q)
  exact WSs.back e1 (h2.run D ρ1 G1 σ1 H1 q1 rs1 s1 (tk.step e1))
theorem qs_pass : QS X (.Pass pos) sNext := ⟨fun D ρ G σ H h rs s tk => PS.ws ps_pass ⟨ρ, G, rs, s, .refl, h⟩⟩
def sBreak : DS := fun D ρ G => D.bk ρ G
def sCont : DS := fun D ρ G => D.ct ρ G
theorem qs_break : QS X (.Break pos) sBreak := ⟨fun D ρ G σ H h rs s tk => PS.ws ps_break ⟨ρ, G, rs, s, .refl, h⟩⟩
theorem qs_cont : QS X (.Continue pos) sCont := ⟨fun D ρ G σ H h rs s tk => PS.ws ps_continue ⟨ρ, G, rs, s, .refl, h⟩⟩
def sRet (te : DE) : DS := fun D ρ G => te ρ G D.rt fun z => D.ex z ρ
theorem qs_ret (he : QE X e te) : QS X (.Return (some e) pos) (sRet te) := ⟨fun D ρ G σ H h rs s tk => PS.ws (ps_ret pe_max) (he.run ρ G _ _ σ H h rs s (tk.tk rs))⟩
def sRetN : DS := fun D _ G => D.rt .non G
theorem qs_retN : QS X (.Return none pos) sRetN := ⟨fun D ρ G σ H h rs s tk => PS.ws ps_retN (Lift.here .non s h)⟩
def sDrop (te : DE) : DS := fun D ρ G => te ρ G (fun _ G1 => D.nx ρ G1) fun z => D.ex z ρ
def noComp : Expr → Bool
  | .ListComp .. => false | .SetComp .. => false | .DictComp .. => false
  | _ => true
theorem swaps_no {e : Expr} {t : Option Expr} {l : Nat} {env : PySem.Env} (h : noComp e = true) : swapsWith e t l env = pure false := by
  cases e <;> first | rfl | cases h
theorem qs_expr (he : QE X e te) (hn : noComp e = true) : QS X (.Expr e pos) (sDrop te) :=
  ⟨fun D ρ G σ H h rs s tk => PS.ws (ps_expr pe_max (swaps_no hn)) ((he.run ρ G _ _ σ H h rs s (tk.tk rs)).imp fun v H1 ⟨x, G1, rx, s1, e1, q1⟩ => ⟨ρ, G1, rs.mono e1.tup, s1, e1, q1⟩)⟩
def sAsg (te : DE) (g : DG) : DS := fun D ρ G => te ρ G (fun x G1 => g x ρ G1 D.nx D.ex) fun z => D.ex z ρ
/-- no pair or triple of plain names on both sides -/
def noSwap : Expr → Expr → Bool
  | .Tuple .., .Tuple .. => false
  | .List .., .Tuple .. => false
  | _, _ => true
theorem swapped_no {tg e : Expr} {env : PySem.Env} (h : noSwap tg e = true) : swappedStores [tg] e env = pure none := by
  cases tg <;> first | rfl | (cases e <;> first | rfl | cases h)
theorem qs_asg {g : DG} (he : QE X e te) (hg : QG X tg S g) (hn : noComp e = true) (hw : noSwap tg e = true) (hs : noStar tg = true) : QS X (.Assign [tg] e pos) (sAsg te g) := by
  refine ⟨fun D ρ G σ H h rs s tk => ?_⟩
  refine PS.ws (ps_asg pe_max pg_max (swaps_no hn) (swapped_no hw) (by rw [assignEach_cons hs]; rfl)) ?_
  refine (he.run ρ G _ _ σ H h rs s (tk.tk rs)).imp fun v H1 ⟨x, G1, rx, s1, e1, q1⟩ => ?_
  exact (hg.run x ρ G1 _ _ v σ H1 q1 rx (rs.mono e1.tup) s1 (tk.step e1)).imp fun σ2 H2 ⟨_, ρ2, G2, rs2, s2, e2, q2⟩ => ⟨ρ2, G2, rs2, s2, e1.trans e2, q2⟩
def sIf (tc : DT) (t u : DS) : DS := fun D ρ G => tc ρ G (fun k G1 => if k = true then t D ρ G1 else u D ρ G1) fun z => D.ex z ρ
theorem qs_if {p q : List Stmt} (hc : QT X c tc) (hp : QB X p t) (hq : QB X q u) : QS X (.If c p q pos) (sIf tc t u) := by
  refine ⟨fun D ρ G σ H h rs s tk => ?_⟩
  refine PS.ws (ps_if pt_max pss_max pss_max) ((hc.run ρ G _ _ σ H h rs s (tk.tk rs)).imp fun k H1 ⟨G1, s1, e1, q1⟩ => ?_)
  cases k with
  | true =>
    simp only [if_true] at q1 ⊢
    exact WSs.back e1 (hp.run D ρ G1 σ H1 q1 (rs.mono e1.tup) s1 (tk.step e1))
  | false =>
    simp only [Bool.false_eq_true, if_false] at q1 ⊢
    exact WSs.back e1 (hq.run D ρ G1 σ H1 q1 (rs.mono e1.tup) s1 (tk.step e1))
/-! for -/
/-- some cells may be let go -/
def Fewer (N : NQ) : NQ := fun ρ G => ∃ G', Dn G G' ∧ N ρ G'
theorem Fewer.of {N : NQ} {ρ : Ev} {G : Sto} (h : N ρ G) : Fewer N ρ G := ⟨G, .refl, h⟩
def forL (g : DG) (tb : DS) (keep : Sto → Prop) (De : DEnds) : List D → Ev → Sto → Prop
  | [], ρ, G => keep G ∧ De.nx ρ G
  | x :: xs, ρ, G => keep G ∧ g x ρ G (fun ρ1 G1 => tb { De with nx := Fewer (forL g tb keep De xs), ct := Fewer (forL g tb keep De xs), bk := De.nx } ρ1 G1) De.ex
/-- the same, closed: it does not open by itself -/
@[irreducible] def forS (g : DG) (tb : DS) (keep : Sto → Prop) (De : DEnds) (items : List D) (ρ : Ev) (G : Sto) : Prop := forL g tb keep De items ρ G
theorem forS_eq {g : DG} {tb : DS} {keep : Sto → Prop} {De : DEnds} {items : List D} {ρ : Ev} {G : Sto} : forS g tb keep De items ρ G = forL g tb keep De items ρ G := by unfold forS; rfl
def sFor (wi : DI) (g : DG) (tb : DS) : DS := fun D ρ G => wi ρ G (fun items keep G1 => forS g tb keep D items ρ G1) fun z => D.ex z ρ
def noSet : Expr → Bool
  | .Set .. => false
  | _ => true
theorem folded_no {iter : Expr} {env : PySem.Env} (h : noSet iter = true) : ∀ x, foldedSetIterable iter env x = pure x := by
  intro x
  cases iter <;> first | rfl | cases h
theorem qs_for {iter : Expr} {wi : DI} {g : DG} {tb : DS} (hp : PassesOwn (model X.prog X.w) X.A X.env X.xe) (hc : X.calm = true) (hi : QI X tg iter wi) (hg : QG X tg S g) (hb : QB X sts tb) (hs : noSet iter = true) :
    QS X (.For tg iter sts [] pos) (sFor wi g tb) := by
  refine ⟨fun D ρ G σ H h rs s tk => ?_⟩
  refine PS.ws (ps_for hp hc pi_max pg_max pss_max (folded_no hs)) ?_
  refine fun pins s0 I => thn (hi.run ρ G _ _ σ H h rs s (tk.tk rs) pins s0 I) fun v s1 h1 => thn h1 fun itv s2 h2 => ?_
  obtain ⟨it, fp, tn, J, H', x1, x2, x3, x4, x5, items, keep, G1, IR, sm, e1, q⟩ := h2
  rw [forS_eq] at q
  refine ⟨it, fp, tn, J, H', x1, x2, x3, x4, x5, ?_⟩
  refine ⟨fun i m σ' H2 => m = items.length - i ∧ i ≤ items.length ∧ ∃ ρ' G', RepS X.K H2 σ' ρ' ∧ Sim X.K G' H2 ∧ Ext X.K G1 H' G' H2 ∧ forL g tb keep D (items.drop i) ρ' G', ⟨_, rfl, Nat.zero_le _, ρ, G1, rs.mono e1.tup, sm, .refl, q⟩, ?_⟩
  rintro i m σ' H2 ⟨rfl, hi, ρ', G', r', sm', e', q'⟩
  by_cases hlt : i < items.length
  · right
    rw [List.drop_eq_getElem_cons hlt] at q'
    obtain ⟨kp, q'⟩ := q'
    refine ⟨IR.go i G' H2 e'.tup sm' kp hlt, fun σ3 H3 => ∃ ρ' G', RepS X.K H3 σ3 ρ' ∧ Sim X.K G' H3 ∧ Ext X.K G1 H' G' H3 ∧ forL g tb keep D (items.drop (i + 1)) ρ' G', fun σ3 H3 z => ⟨_, by omega, rfl, hlt, z⟩, fun x H4 y => ?_⟩
    obtain ⟨d, hd, rd, sm4, e4⟩ := IR.yld i G' H2 x H4 e'.tup sm' kp hlt y
    have ed : d = items[i] := by
      rw [List.getElem?_eq_getElem hlt] at hd
      exact (Option.some.inj hd).symm
    subst ed
    have e04 := e1.trans (e'.trans e4)
    refine (hg.run _ ρ' G' _ _ x σ' H4 q' rd (r'.mono e4.tup) sm4 (tk.step e04)).imp fun σ5 H5 ⟨_, ρ5, G5, r5, sm5, e5, q5⟩ => ?_
    have e05 := e04.trans e5
    have e15 := (e'.trans e4).trans e5
    refine (hb.run _ ρ5 G5 σ5 H5 q5 r5 sm5 (tk.step e05)).imp (fun σ6 H6 ⟨ρ6, G6, r6, s6, e6, G7, d7, q6⟩ => ⟨ρ6, G7, r6, d7.sim s6, e15.trans (e6.trans d7.ext), q6⟩) (Lift.back e05) (LiftP.back e05) (fun σ6 H6 ⟨ρ6, G6, r6, s6, e6, G7, d7, q6⟩ => ⟨ρ6, G7, r6, d7.sim s6, e15.trans (e6.trans d7.ext), q6⟩)
  · left
    have ei : i = items.length := by omega
    subst ei
    rw [List.drop_length] at q'
    exact ⟨IR.stop _ G' H2 e'.tup sm' q'.1 (Nat.le_refl _), ρ', G', r', sm', e1.trans e', q'.2⟩
/-! while -/
def sWhile (tc : DT) (tb : DS) : DS := fun D ρ G => ∃ W : Nat → Ev → Sto → Prop, (∃ m, W m ρ G) ∧ ∀ m ρ G, W m ρ G →
  tc ρ G (fun k G1 => if k = true then tb { D with nx := Fewer fun ρ' G' => ∃ m', m' < m ∧ W m' ρ' G', ct := Fewer fun ρ' G' => ∃ m', m' < m ∧ W m' ρ' G', bk := D.nx } ρ G1 else D.nx ρ G1) fun z => D.ex z ρ
theorem qs_while {tb : DS} (hp : PassesOwn (model X.prog X.w) X.A X.env X.xe) (hc : QT X c tc) (hb : QB X sts tb) : QS X (.While c sts [] pos) (sWhile tc tb) := by
  refine ⟨fun D ρ G σ H h rs s tk => ?_⟩
  obtain ⟨W, ⟨m0, w0⟩, turn⟩ := h
  refine PS.ws (ps_while hp pt_max pss_max) ⟨fun m σ' H' => ∃ ρ' G', RepS X.K H' σ' ρ' ∧ Sim X.K G' H' ∧ Ext X.K G H G' H' ∧ W m ρ' G', ⟨m0, ρ, G, rs, s, .refl, w0⟩, ?_⟩
  rintro m σ1 H1 ⟨ρ1, G1, r1, s1, e1, w1⟩
  refine (hc.run ρ1 G1 _ _ σ1 H1 (turn m ρ1 G1 w1) r1 s1 ((tk.step e1).tk r1)).imp fun k H2 ⟨G2, s2, e2, q2⟩ => ?_
  have e12 := e1.trans e2
  cases k with
  | true =>
    simp only [if_true] at q2 ⊢
    refine ⟨LiftP X.K G H (Fewer fun ρ' G' => ∃ m', m' < m ∧ W m' ρ' G'), fun σ' H' ⟨ρ', G', r', s', e', G7, d7, m', hm, w'⟩ => ⟨m', hm, ρ', G7, r', d7.sim s', e'.trans d7.ext, w'⟩, ?_⟩
    exact WSs.back e12 (hb.run _ ρ1 G2 σ1 H2 q2 (r1.mono e2.tup) s2 (tk.step e12))
  | false =>
    simp only [Bool.false_eq_true, if_false] at q2 ⊢
    exact ⟨ρ1, G2, r1.mono e2.tup, s2, e12, q2⟩
/-! a list of a slot, locked: nothing of the text -/
def sLk (i : Nat) (t : DS) : DS := fun D ρ G => ∃ a ds, ρ[i]? = some (some (.ref a)) ∧ G a = some (.lst ds) ∧ t D (ρ.set i (some (.rl ds))) (drop G a)
theorem RepS.over {K : PySem.W.Frag} {H : Hp} {σ : L2.St} {ρ : Ev} {v : V} {d : D} {i : Nat} (r : RepS K H σ ρ) (hv : σ[i]? = some (some v)) (h : Rep K H v d) : RepS K H σ (ρ.set i (some d)) := by
  refine ⟨by rw [List.length_set, r.len], fun j e q => ?_⟩
  by_cases hj : i = j
  · subst hj
    rw [List.getElem?_set] at q
    simp only [if_true] at q
    split at q
    · cases q
      exact ⟨v, hv, h⟩
    · cases q
  · rw [List.getElem?_set_ne hj] at q
    exact r.at_ j e q
theorem qb_lk {i : Nat} (h : QB X sts t) : QB X sts (sLk i t) := by
  refine ⟨fun D ρ G σ H hq rs s tk => ?_⟩
  obtain ⟨a, ds, hi, g, q⟩ := hq
  obtain ⟨v, hv, rv⟩ := rs.at_ i _ hi
  cases rv
  obtain ⟨vs, h1, r1⟩ := s _ _ g
  intro pins s0 I
  obtain ⟨od, I2⟩ := I.lock h1 True.intro
  have t8 : TupExt X.K H (upd H a (.frz od (.lst vs))) := tup_mut h1 rfl
  have e8 : Ext X.K G H (drop G a) (upd H a (.frz od (.lst vs))) := .lock g h1 rfl
  exact WSs.back e8 (h.run D _ (drop G a) σ _ q ((rs.mono t8).over hv (.rl upd_same (r1.mono t8))) (s.lock h1 rfl) (tk.step e8)) pins s0 I2
end
end DL

namespace DL
open PySem PySem.Spec PyProof.Rows L2
/-! a, b = x, y -/
def isStarred : Expr → Bool
  | .Starred .. => true
  | _ => false
def swapN (sc : Scope) (ts : List Expr) : List Str := ts.filterMap fun
  | .Name id pos => if sc.names.lookup id == some .local && pos.line == (ts.head?.map (·.pos.line)).getD 0 then some id else none
  | _ => none
def swapR (sc : Scope) (ts vs : List Expr) : Option (Option (List Str)) :=
  if (!(ts.length == 2 || ts.length == 3) || vs.length != ts.length) = true then some none
  else if vs.any isStarred = true then some none
  else if ((swapN sc ts).length != ts.length || (swapN sc ts).eraseDups.length != (swapN sc ts).length) = true then some none
  else if vs.all (foldedForSure 8) = true then some none
  else if vs.all (constantsAlone 8) = true then none else some (some (swapN sc ts))
theorem any_starred (vs : List Expr) : (vs.any fun | .Starred .. => true | _ => false) = vs.any isStarred := by
  congr 1
theorem swap_ok {env : PySem.Env} {ts vs : List Expr} {k k2 : Nat} {p p2 : Pos} {r : Option (List Str)} (hk : env.scope.kind = .function) (h : swapR env.scope ts vs = some r) : swappedStores [.Tuple ts k p] (.Tuple vs k2 p2) env = pure r := by
  have hb : env.blockKind = .function := by unfold Env.blockKind; rw [hk]; rfl
  unfold swapR at h
  unfold swappedStores
  dsimp only
  rw [hb]
  have e0 : (ScopeKind.function != ScopeKind.function) = false := by decide
  rw [e0, Bool.or_false]
  show (if (!(ts.length == 2 || ts.length == 3) || vs.length != ts.length) = true then pure none else
    if (vs.any isStarred) = true then pure none else
    if ((swapN env.scope ts).length != ts.length || (swapN env.scope ts).eraseDups.length != (swapN env.scope ts).length) = true then pure none else
    if vs.all (foldedForSure 8) = true then pure none else
    if vs.all (constantsAlone 8) = true then (do unsupported "assign.tuple-of-constant-expressions:order-of-the-stores"; pure (some (swapN env.scope ts)))
    else pure (some (swapN env.scope ts)) : Sem (Option (List Str))) = pure r
  by_cases c1 : (!(ts.length == 2 || ts.length == 3) || vs.length != ts.length) = true
  · rw [if_pos c1] at h ⊢
    rw [Option.some.inj h]
  rw [if_neg c1] at h ⊢
  by_cases c2 : vs.any isStarred = true
  · rw [if_pos c2] at h ⊢
    rw [Option.some.inj h]
  rw [if_neg c2] at h ⊢
  by_cases c3 : ((swapN env.scope ts).length != ts.length || (swapN env.scope ts).eraseDups.length != (swapN env.scope ts).length) = true
  · rw [if_pos c3] at h ⊢
    rw [Option.some.inj h]
  rw [if_neg c3] at h ⊢
  by_cases c4 : vs.all (foldedForSure 8) = true
  · rw [if_pos c4] at h ⊢
    rw [Option.some.inj h]
  rw [if_neg c4] at h ⊢
  by_cases c5 : vs.all (constantsAlone 8) = true
  · rw [if_pos c5] at h
    cases h
  rw [if_neg c5] at h ⊢
  rw [Option.some.inj h]
/-- a comprehension's value is stored in the plain way -/
def swapsNo (sc : Scope) (e tg : Expr) : Bool := match e with
  | .ListComp _ _ s p => (match tg with
    | .Name t q => !(sc.names.lookup t == some .local && q.line == p.line && !(s.names.any fun (n, k) => n == t && (k == .local || k == .cell)))
    | _ => true)
  | .SetComp .. => false | .DictComp .. => false
  | _ => true
theorem swapsNo_ok {env : PySem.Env} {e tg : Expr} {l : Nat} (hk : env.scope.kind = .function) (h : swapsNo env.scope e tg = true) : swapsWith e (some tg) l env = pure false := by
  have hb : env.blockKind = .function := by unfold Env.blockKind; rw [hk]; rfl
  cases e with
  | ListComp a b s p =>
    cases tg with
    | Name t q =>
      have h : (!(env.scope.names.lookup t == some .local && q.line == p.line && !(s.names.any fun (n, k) => n == t && (k == .local || k == .cell)))) = true := h
      rw [Bool.not_eq_true'] at h
      unfold swapsWith
      show (pure (env.blockKind == .function && env.scope.names.lookup t == some .local && q.line == p.line && !(s.names.any fun (n, k) => n == t && (k == .local || k == .cell))) : Sem Bool) = pure false
      have e0 : (env.blockKind == .function) = true := by rw [hb]; decide
      rw [e0, Bool.true_and, h]
    | _ => rfl
  | SetComp a b s p => cases h
  | DictComp a a2 b s p => cases h
  | _ => rfl
section
variable {X : Cx} {tg e o i : Expr} {es : List Expr} {S S' : List Nat} {pos : Pos} {te to ti : DE} {tas : DA}
theorem qs_asgN {g : DG} (he : QE X e te) (hg : QG X tg S g) (hk : X.env.scope.kind = .function) (hn : swapsNo X.env.scope e tg = true) (hw : noSwap tg e = true) (hs : noStar tg = true) : QS X (.Assign [tg] e pos) (sAsg te g) := by
  refine ⟨fun D ρ G σ H h rs s tk => ?_⟩
  refine PS.ws (ps_asg pe_max pg_max (swapsNo_ok hk hn) (swapped_no hw) (by rw [assignEach_cons hs]; rfl)) ?_
  refine (he.run ρ G _ _ σ H h rs s (tk.tk rs)).imp fun v H1 ⟨x, G1, rx, s1, e1, q1⟩ => ?_
  exact (hg.run x ρ G1 _ _ v σ H1 q1 rx (rs.mono e1.tup) s1 (tk.step e1)).imp fun σ2 H2 ⟨_, ρ2, G2, rs2, s2, e2, q2⟩ => ⟨ρ2, G2, rs2, s2, e1.trans e2, q2⟩
def sPar2 (i j : Nat) (tas : DA) : DS := fun D ρ G => tas ρ G (fun ds G1 => match ds with
  | [a, b] => D.nx ((ρ.set i (some a)).set j (some b)) G1
  | _ => False) fun z => D.ex z ρ
theorem qs_par2 {i j : Nat} {x y : Str} {a b : Expr} {px py pt : Pos} {kt k2 : Nat} {pt2 : Pos} (hc : X.calm = true) (hN : X.N.Nodup) (hi : X.N[i]? = some x) (hj : X.N[j]? = some y) (hij : i ≠ j)
    (hx : X.env.scope.names.lookup x = some .local) (hy : X.env.scope.names.lookup y = some .local) (ha : QA X [a, b] tas) (hk : X.env.scope.kind = .function)
    (hw : swapR X.env.scope [.Name x px, .Name y py] [a, b] = some (some [x, y])) : QS X (.Assign [.Tuple [.Name x px, .Name y py] kt pt] (.Tuple [a, b] k2 pt2) pos) (sPar2 i j tas) := by
  refine ⟨fun D ρ G σ H h rs s tk => ?_⟩
  refine PS.ws (ps_par hc hN hi hj hij hx hy pa_max (swap_ok hk hw) rfl) ((ha.run ρ G _ _ σ H h rs s (tk.tk rs)).imp fun vs H1 ⟨ds, G1, r1, s1, e1, q1⟩ => ?_)
  dsimp only at q1
  split at q1
  · obtain ⟨v, u, rfl, ra, rb⟩ := r1.two
    exact ⟨v, u, rfl, _, G1, ((rs.mono e1.tup).set i ra).set j rb, s1, e1, q1⟩
  · exact q1.elim
theorem Reps.three {K : PySem.W.Frag} {H : Hp} {vs : List V} {d e f : D} (h : Reps K H vs [d, e, f]) : ∃ v u w, vs = [v, u, w] ∧ Rep K H v d ∧ Rep K H u e ∧ Rep K H w f := by
  cases h with
  | cons a b =>
    obtain ⟨u, w, rfl, r, q⟩ := b.two
    exact ⟨_, u, w, rfl, a, r, q⟩
def sPar3 (i j l : Nat) (tas : DA) : DS := fun D ρ G => tas ρ G (fun ds G1 => match ds with
  | [a, b, c] => D.nx (((ρ.set i (some a)).set j (some b)).set l (some c)) G1
  | _ => False) fun z => D.ex z ρ
theorem qs_par3 {i j l : Nat} {x y z : Str} {a b c : Expr} {px py pz pt : Pos} {kt k2 : Nat} {pt2 : Pos} (hc : X.calm = true) (hN : X.N.Nodup) (hi : X.N[i]? = some x) (hj : X.N[j]? = some y) (hl : X.N[l]? = some z) (hij : i ≠ j) (hil : i ≠ l) (hjl : j ≠ l)
    (hx : X.env.scope.names.lookup x = some .local) (hy : X.env.scope.names.lookup y = some .local) (hz : X.env.scope.names.lookup z = some .local) (ha : QA X [a, b, c] tas) (hk : X.env.scope.kind = .function)
    (hw : swapR X.env.scope [.Name x px, .Name y py, .Name z pz] [a, b, c] = some (some [x, y, z])) : QS X (.Assign [.Tuple [.Name x px, .Name y py, .Name z pz] kt pt] (.Tuple [a, b, c] k2 pt2) pos) (sPar3 i j l tas) := by
  refine ⟨fun D ρ G σ H h rs s tk => ?_⟩
  refine PS.ws (ps_par3 hc hN hi hj hl hij hil hjl hx hy hz pa_max (swap_ok hk hw) rfl) ((ha.run ρ G _ _ σ H h rs s (tk.tk rs)).imp fun vs H1 ⟨ds, G1, r1, s1, e1, q1⟩ => ?_)
  dsimp only at q1
  split at q1
  · obtain ⟨v, u, w, rfl, ra, rb, rc⟩ := r1.three
    exact ⟨v, u, w, rfl, _, G1, (((rs.mono e1.tup).set i ra).set j rb).set l rc, s1, e1, q1⟩
  · exact q1.elim
/-- a tuple of targets from a written tuple, one by one -/
theorem qs_asgT {g : DG} {ts vs : List Expr} {k k2 : Nat} {p1 p2 : Pos} (he : QE X (.Tuple vs k2 p2) te) (hg : QG X (.Tuple ts k p1) S g) (hk : X.env.scope.kind = .function) (hw : swapR X.env.scope ts vs = some none) : QS X (.Assign [.Tuple ts k p1] (.Tuple vs k2 p2) pos) (sAsg te g) := by
  refine ⟨fun D ρ G σ H h rs s tk => ?_⟩
  refine PS.ws (ps_asg pe_max pg_max rfl (swap_ok hk hw) rfl) ?_
  refine (he.run ρ G _ _ σ H h rs s (tk.tk rs)).imp fun v H1 ⟨x, G1, rx, s1, e1, q1⟩ => ?_
  exact (hg.run x ρ G1 _ _ v σ H1 q1 rx (rs.mono e1.tup) s1 (tk.step e1)).imp fun σ2 H2 ⟨_, ρ2, G2, rs2, s2, e2, q2⟩ => ⟨ρ2, G2, rs2, s2, e1.trans e2, q2⟩
/-! list comprehensions -/
theorem wipe_get {σ : L2.St} {j : Nat} : ∀ {vs : List Nat}, (L2.wipe σ vs)[j]? = if j ∈ vs ∧ j < σ.length then some none else σ[j]?
  | [] => by simp [L2.wipe]
  | v :: vs => by
    unfold L2.wipe
    rw [List.getElem?_set, wipe_length, wipe_get]
    by_cases hv : v = j
    · subst hv
      by_cases hl : v < σ.length
      · simp [hl]
      · simp [hl]
    · simp [hv]
      by_cases hm : j ∈ vs
      · simp [hm]
      · simp [hm, Ne.symm hv]
theorem wipe_only {σ σ2 : L2.St} {vs : List Nat} (h : Only vs (L2.wipe σ vs) σ2) : L2.wipe σ2 vs = L2.wipe σ vs := by
  apply List.ext_getElem?
  intro j
  have hl : σ2.length = σ.length := h.1.trans (wipe_length σ vs)
  rw [wipe_get, wipe_get, hl]
  by_cases hj : j ∈ vs
  · by_cases hjl : j < σ.length
    · rw [if_pos ⟨hj, hjl⟩, if_pos ⟨hj, hjl⟩]
    · rw [if_neg (fun z => hjl z.2), if_neg (fun z => hjl z.2), List.getElem?_eq_none (by omega), List.getElem?_eq_none (by omega)]
  · rw [if_neg (fun z => hj z.1), if_neg (fun z => hj z.1), h.2 j hj, wipe_get, if_neg (fun z => hj z.1)]
/-- the next turn, with fewer cells -/
def Less (N : Sto → Prop) : Sto → Prop := fun G => ∃ G', Dn G G' ∧ N G'
theorem Less.of {N : Sto → Prop} {G : Sto} (h : N G) : Less N G := ⟨G, .refl, h⟩
def lcL (g : DG) (tt : DT) (te : DE) (ρ0 : Ev) (keep : Sto → Prop) (fin : List D → Sto → Prop) : List D → List D → Sto → Prop
  | [], acc, G => keep G ∧ fin acc G
  | x :: xs, acc, G => keep G ∧ g x ρ0 G (fun ρ1 G1 => tt ρ1 G1 (fun b G2 => if b = true then te ρ1 G2 (fun d G3 => acc.length < sizeLine ∧ Less (lcL g tt te ρ0 keep fin xs (acc ++ [d])) G3) (fun _ _ => False) else Less (lcL g tt te ρ0 keep fin xs acc) G2) (fun _ _ => False)) (fun _ _ _ => False)
@[irreducible] def lcS (g : DG) (tt : DT) (te : DE) (ρ0 : Ev) (keep : Sto → Prop) (fin : List D → Sto → Prop) (items acc : List D) (G : Sto) : Prop := lcL g tt te ρ0 keep fin items acc G
theorem lcS_eq {g : DG} {tt : DT} {te : DE} {ρ0 : Ev} {keep : Sto → Prop} {fin : List D → Sto → Prop} {items acc : List D} {G : Sto} : lcS g tt te ρ0 keep fin items acc G = lcL g tt te ρ0 keep fin items acc G := by unfold lcS; rfl
def dLcF (wi : DI) (g : DG) (tt : DT) (te : DE) (vs : List Nat) (ρ : Ev) (G : Sto) (fin : List D → Sto → Prop) (xq : XQ) : Prop := wi ρ G (fun items keep G1 => lcS g tt te (wipeD ρ vs) keep fin items [] G1) xq
def dLc (wi : DI) (g : DG) (tt : DT) (te : DE) (vs : List Nat) : DE := fun ρ G Q xq => dLcF wi g tt te vs ρ G (fun acc G2 => ∀ p, G2 p = none → Q (.ref p) (put G2 p (.lst acc))) xq
/-- its list by value -/
def dLcV (wi : DI) (g : DG) (tt : DT) (te : DE) (vs : List Nat) : DE := fun ρ G Q xq => dLcF wi g tt te vs ρ G (fun acc G2 => Q (.rl acc) G2) xq
def WTs (X : Cx) (ifs : List Expr) : TT := fun σ H Q => ∀ pins s, Inv X pins σ H s → wpAny (model X.prog X.w) X.A (forIn ifs true fun c r => if r = true then do let ok ← isTrue c X.env (eval c X.env); pure (ForInStep.yield ok) else pure (ForInStep.yield r)) (TP X pins σ Q) X.xe s
structure QTs (X : Cx) (ifs : List Expr) (t : DT) : Prop where
  run : ∀ ρ G Q xq σ H, t ρ G Q xq → RepS X.K H σ ρ → Sim X.K G H → Tk X σ G H xq → WTs X ifs σ H (LiftB X.K G H Q)
def dYes : DT := fun _ G Q _ => Q true G
theorem qts_nil : QTs X [] dYes := ⟨fun ρ G Q xq σ H h rs s tk pins s0 I => (pts_nil (X := X)).run pins s0 σ H _ I ⟨G, s, .refl, h⟩⟩
theorem qts_one {c : Expr} {tc : DT} (h : QT X c tc) : QTs X [c] tc := ⟨fun ρ G Q xq σ H q rs s tk pins s0 I => (pts_one pt_max).run pins s0 σ H _ I (h.run ρ G Q xq σ H q rs s tk)⟩
theorem WTs.imp {ifs : List Expr} {σ : L2.St} {H : Hp} {Q Q' : Bool → Hp → Prop} (h : WTs X ifs σ H Q) (i : ∀ v H', Q v H' → Q' v H') : WTs X ifs σ H Q' := fun pins s I => thn (h pins s I) fun _ _ ⟨H', I', q⟩ => ⟨H', I', i _ _ q⟩
/-- the contexts of the block -/
abbrev Blk (X : Cx) (scope : Scope) (Y : Cx) : Prop := ∃ s H C cl fp, Y = X.blk s H scope (compEnvC scope cl C X.env) fp
section
variable {elt iter : Expr} {ifs : List Expr} {scope : Scope} {own : List (Str × Nat)} {wi : DI} {g : DG} {tt : DT}
/-- the readings that serve in all of the block's contexts -/
def BG (X : Cx) (scope : Scope) (tg : Expr) : TG := fun v σ H Q => ∀ Y, Blk X scope Y → WG Y tg v σ H Q
def BT (X : Cx) (scope : Scope) (ifs : List Expr) : TT := fun σ H Q => ∀ Y, Blk X scope Y → WTs Y ifs σ H Q
def BE (X : Cx) (scope : Scope) (e : Expr) : TE := fun σ H Q => ∀ Y, Blk X scope Y → WE Y e σ H Q
theorem pg_blk (s : Shared) (H : Hp) (C : Addr) (cl : List (Str × Addr)) (fp : List Addr) : PG (X.blk s H scope (compEnvC scope cl C X.env) fp) tg (BG X scope tg) := ⟨fun pins s0 σ H' v u Q I r h => h _ ⟨s, H, C, cl, fp, rfl⟩ pins s0 u I r⟩
theorem pts_blk (s : Shared) (H : Hp) (C : Addr) (cl : List (Str × Addr)) (fp : List Addr) : PTs (X.blk s H scope (compEnvC scope cl C X.env) fp) ifs (BT X scope ifs) := ⟨fun pins s0 σ H' Q I h => h _ ⟨s, H, C, cl, fp, rfl⟩ pins s0 I⟩
theorem pe_blk (s : Shared) (H : Hp) (C : Addr) (cl : List (Str × Addr)) (fp : List Addr) : PE (X.blk s H scope (compEnvC scope cl C X.env) fp) elt (BE X scope elt) := ⟨fun pins s0 σ H' Q I h => h _ ⟨s, H, C, cl, fp, rfl⟩ pins s0 I⟩
theorem lc_ (hi : QI X tg iter wi) (hg : ∀ Y, Blk X scope Y → QG Y tg S g) (ht : ∀ Y, Blk X scope Y → QTs Y ifs tt) (he : ∀ Y, Blk X scope Y → QE Y elt te) (hS : ∀ j ∈ S, j ∈ own.map (·.2))
    {ρ : Ev} {G : Sto} {fin : List D → Sto → Prop} {R : VK} {xq : XQ} {σ : L2.St} {H : Hp} (h : dLcF wi g tt te (own.map (·.2)) ρ G fin xq) (rs : RepS X.K H σ ρ) (s : Sim X.K G H) (tk : Tk X σ G H xq)
    (hR : ∀ Dw acc vs G' H2, fin acc G' → H2 Dw = some (.lst vs) → Reps X.K H2 vs acc → G' Dw = none → Sim X.K G' H2 → Ext X.K G H G' H2 → (∀ o, H Dw = some o → G Dw = none → False) → R (.ref Dw) H2) :
    tLc (WI X tg iter) (BG X scope tg) (BT X scope ifs) (BE X scope elt) (own.map (·.2)) σ H R := by
  refine fun pins s0 I => thn (hi.run ρ G _ _ σ H h rs s tk pins s0 I) fun v s1 h1 => thn h1 fun itv s2 h2 => ?_
  obtain ⟨it, fp, tn, J, H', x1, x2, x3, x4, x5, items, keep, G1, IR, sm, e1, q⟩ := h2
  rw [lcS_eq] at q
  refine ⟨it, fp, tn, J, H', x1, x2, x3, x4, x5, fun Dw hD => ?_⟩
  have gD : G1 Dw = none := sm.free hD
  refine ⟨fun i m H2 => m = items.length - i ∧ i ≤ items.length ∧ ∃ acc vs G', Reps X.K H2 vs acc ∧ H2 Dw = some (.lst vs) ∧ G' Dw = none ∧ Sim X.K G' H2 ∧ Ext X.K G1 H' G' H2 ∧
    lcL g tt te (wipeD ρ (own.map (·.2))) keep fin (items.drop i) acc G', ⟨_, rfl, Nat.zero_le _, [], [], G1, .nil, upd_same, gD, sm.newT hD, .newT hD, q⟩, ?_⟩
  rintro i m H2 ⟨rfl, hi2, acc, vs, G', ra, hd, gn, sm', e', q'⟩
  by_cases hlt : i < items.length
  · right
    rw [List.drop_eq_getElem_cons hlt] at q'
    obtain ⟨kp, q'⟩ := q'
    refine ⟨IR.go i G' H2 e'.tup sm' kp hlt, fun H3 => ∃ acc vs G', Reps X.K H3 vs acc ∧ H3 Dw = some (.lst vs) ∧ G' Dw = none ∧ Sim X.K G' H3 ∧ Ext X.K G1 H' G' H3 ∧
      lcL g tt te (wipeD ρ (own.map (·.2))) keep fin (items.drop (i + 1)) acc G', fun H3 z => ⟨_, by omega, rfl, hlt, z⟩, fun x H4 y => ?_⟩
    obtain ⟨d, hd4, rd, sm4, e4⟩ := IR.yld i G' H2 x H4 e'.tup sm' kp hlt y
    have ed : d = items[i] := by
      rw [List.getElem?_eq_getElem hlt] at hd4
      exact (Option.some.inj hd4).symm
    subst ed
    have e04 := e1.trans (e'.trans e4)
    have rw4 : RepS X.K H4 (L2.wipe σ (own.map (·.2))) (wipeD ρ (own.map (·.2))) := (rs.mono e04.tup).wipe _
    have dn4 := e4.frm Dw _ hd gn
    intro Y hY
    have hYK : Y.K = X.K := by obtain ⟨_, _, _, _, _, rfl⟩ := hY; rfl
    refine ((hg Y hY).run _ _ G' _ _ x _ H4 q' (by rw [hYK]; exact rd) (by rw [hYK]; exact rw4) (by rw [hYK]; exact sm4) TkS.never).imp fun σ5 H5 ⟨o5, ρ5, G5, r5, s5, e5, q5⟩ => ?_
    rw [hYK] at r5 s5 e5
    refine ⟨wipe_only (o5.mono hS), ?_⟩
    have dn5 := e5.frm Dw _ dn4.1 dn4.2
    intro Y hY
    have hYK : Y.K = X.K := by obtain ⟨_, _, _, _, _, rfl⟩ := hY; rfl
    refine ((ht Y hY).run ρ5 G5 _ _ σ5 H5 q5 (by rw [hYK]; exact r5) (by rw [hYK]; exact s5) Tk.never).imp fun b H6 ⟨G6, s6, e6, q6⟩ => ?_
    rw [hYK] at s6 e6
    have dn6 := e6.frm Dw _ dn5.1 dn5.2
    have e16 := ((e'.trans e4).trans e5).trans e6
    cases b with
    | true =>
      simp only [if_true] at q6 ⊢
      intro Y hY
      have hYK : Y.K = X.K := by obtain ⟨_, _, _, _, _, rfl⟩ := hY; rfl
      refine ((he Y hY).run ρ5 G6 _ _ σ5 H6 q6 (by rw [hYK]; exact r5.mono e6.tup) (by rw [hYK]; exact s6) Tk.never).imp fun v7 H7 ⟨d7, G7', r7, s7', e7', hl7, G7, dd7, q7⟩ => ?_
      rw [hYK] at r7 s7' e7'
      have s7 := dd7.sim s7'
      have e7 := e7'.trans (dd7.ext (K := X.K) (H := H7))
      have dn7 := e7.frm Dw _ dn6.1 dn6.2
      have e17 := e16.trans e7
      have ra7 : Reps X.K H7 vs acc := ra.mono ((e4.trans (e5.trans (e6.trans e7))).tup)
      have t8 : TupExt X.K H7 (upd H7 Dw (.lst (vs ++ [v7]))) := tup_mut dn7.1 rfl
      refine ⟨vs, dn7.1, by rw [ra7.length]; exact hl7, acc ++ [d7], vs ++ [v7], G7, (ra7.append (.cons r7 .nil)).mono t8, upd_same, dn7.2, ?_, ?_, q7⟩
      · intro a c hac
        have ne : a ≠ Dw := fun z => by
          subst z
          rw [dn7.2] at hac
          cases hac
        exact (s7 a c hac).mono t8 (upd_ne ne)
      · refine ⟨e17.tup.trans t8, fun a o z1 z2 => ?_⟩
        have ne : a ≠ Dw := fun z => by
          subst z
          rw [hD] at z1
          cases z1
        rw [upd_ne ne]
        exact e17.frm a o z1 z2
    | false =>
      simp only [Bool.false_eq_true, if_false] at q6 ⊢
      obtain ⟨G7, dd7, q7⟩ := q6
      exact ⟨acc, vs, G7, ra.mono ((e4.trans (e5.trans e6)).tup), dn6.1, dd7.non dn6.2, dd7.sim s6, e16.trans dd7.ext, q7⟩
  · left
    have ei : i = items.length := by omega
    subst ei
    rw [List.drop_length] at q'
    have hH : ∀ o, H Dw = some o → G Dw = none → False := fun o z g0 => by
      have z3 := e1.frm Dw o z g0
      rw [hD] at z3
      cases z3.1
    exact ⟨IR.stop _ G' H2 e'.tup sm' q'.1 (Nat.le_refl _), hR Dw acc vs G' H2 q'.2 hd ra gn sm' (e1.trans e') hH⟩
theorem lc_track {K : PySem.W.Frag} {Dw : Addr} {acc : List D} {vs : List V} {G G' : Sto} {H H2 : Hp} {Q : DQ} (q : ∀ p, G' p = none → Q (.ref p) (put G' p (.lst acc))) (hd : H2 Dw = some (.lst vs)) (ra : Reps K H2 vs acc) (gn : G' Dw = none) (sm : Sim K G' H2) (e : Ext K G H G' H2)
    (hn : ∀ o, H Dw = some o → G Dw = none → False) : Lift K G H Q (.ref Dw) H2 := by
  refine ⟨.ref Dw, put G' Dw (.lst acc), .ref Dw, fun a c hac => ?_, ⟨e.tup, fun a o z1 z2 => ?_⟩, q Dw gn⟩
  · by_cases ea : a = Dw
    · subst ea
      rw [put_same] at hac
      cases hac
      exact ⟨vs, hd, ra⟩
    · rw [put_ne ea] at hac
      exact sm a c hac
  · have ne : a ≠ Dw := fun z => by
      subst z
      exact hn o z1 z2
    rw [put_ne ne]
    exact e.frm a o z1 z2
theorem lc_lock {K : PySem.W.Frag} {Dw : Addr} {acc : List D} {vs : List V} {G G' : Sto} {H H2 : Hp} {Q : DQ} {od : Obj} (q : Q (.rl acc) G') (hd : H2 Dw = some (.lst vs)) (ra : Reps K H2 vs acc) (gn : G' Dw = none) (sm : Sim K G' H2) (e : Ext K G H G' H2)
    (hn : ∀ o, H Dw = some o → G Dw = none → False) : Lift K G H Q (.ref Dw) (upd H2 Dw (.frz od (.lst vs))) := by
  have t8 : TupExt K H2 (upd H2 Dw (.frz od (.lst vs))) := tup_mut hd rfl
  refine ⟨.rl acc, G', .rl upd_same (ra.mono t8), fun a c hac => ?_, ⟨e.tup.trans t8, fun a o z1 z2 => ?_⟩, q⟩
  · have ne : a ≠ Dw := fun z => by
      subst z
      rw [gn] at hac
      cases hac
    exact (sm a c hac).mono t8 (upd_ne ne)
  · have ne : a ≠ Dw := fun z => by
      subst z
      exact hn o z1 z2
    rw [upd_ne ne]
    exact e.frm a o z1 z2
theorem qe_lc (hc : X.calm = true) (hN : X.N.Nodup) (hi : QI X tg iter wi) (ok : BlkOk X.N X.env.scope scope own) (hg : ∀ Y, Blk X scope Y → QG Y tg S g) (ht : ∀ Y, Blk X scope Y → QTs Y ifs tt) (he : ∀ Y, Blk X scope Y → QE Y elt te) (hS : ∀ j ∈ S, j ∈ own.map (·.2)) (hs : noSet iter = true) :
    QE X (.ListComp elt [⟨tg, iter, ifs, 0⟩] scope pos) (dLc wi g tt te (own.map (·.2))) :=
  ⟨fun ρ G Q xq σ H h rs s tk => PE.we (pe_lc hc hN pi_max ok pg_blk pts_blk pe_blk (folded_no hs)) (lc_ hi hg ht he hS h rs s tk fun Dw acc vs G' H2 a b c d e f g => lc_track a b c d e f g)⟩
theorem qe_lcV (hc : X.calm = true) (hN : X.N.Nodup) (hi : QI X tg iter wi) (ok : BlkOk X.N X.env.scope scope own) (hg : ∀ Y, Blk X scope Y → QG Y tg S g) (ht : ∀ Y, Blk X scope Y → QTs Y ifs tt) (he : ∀ Y, Blk X scope Y → QE Y elt te) (hS : ∀ j ∈ S, j ∈ own.map (·.2)) (hs : noSet iter = true) :
    QE X (.ListComp elt [⟨tg, iter, ifs, 0⟩] scope pos) (dLcV wi g tt te (own.map (·.2))) :=
  ⟨fun ρ G Q xq σ H h rs s tk => WE.lock (PE.we (pe_lc hc hN pi_max ok pg_blk pts_blk pe_blk (folded_no hs)) (lc_ hi hg ht he hS h rs s tk fun Dw acc vs G' H2 a b c d e f g => ⟨Dw, vs, rfl, b, fun od => lc_lock a b c d e f g⟩))⟩
/-- y = [..], y a local, on one line -/
theorem qs_setLc {i : Nat} {y : Str} {py spos : Pos} (hc : X.calm = true) (hN : X.N.Nodup) (hy : X.N[i]? = some y) (hyl : X.env.scope.names.lookup y = some .local)
    (hsw : swapsWith (.ListComp elt [⟨tg, iter, ifs, 0⟩] scope pos) (some (.Name y py)) spos.line X.env = pure true)
    (hi : QI X tg iter wi) (ok : BlkOk X.N X.env.scope scope own) (hg : ∀ Y, Blk X scope Y → QG Y tg S g) (ht : ∀ Y, Blk X scope Y → QTs Y ifs tt) (he : ∀ Y, Blk X scope Y → QE Y elt te) (hS : ∀ j ∈ S, j ∈ own.map (·.2)) (hs : noSet iter = true) :
    QS X (.Assign [.Name y py] (.ListComp elt [⟨tg, iter, ifs, 0⟩] scope pos) spos) (sAsg (dLc wi g tt te (own.map (·.2))) (gNm i)) := by
  refine ⟨fun D ρ G σ H h rs s tk => ?_⟩
  refine PS.ws (ps_setLc hc hN hy hyl hsw pi_max ok pg_blk pts_blk pe_blk (folded_no hs)) ?_
  have m := lc_ hi hg ht he hS h rs s (tk.tk rs) (R := Lift X.K G H (fun x G1 => D.nx (ρ.set i (some x)) G1)) fun Dw acc vs G' H2 a b c d e f g => lc_track (Q := fun x G1 => D.nx (ρ.set i (some x)) G1) a b c d e f g
  refine fun pins s0 I => thn (m pins s0 I) fun v s1 h1 => thn h1 fun itv s2 ⟨it, fp, tn, J, H', x1, x2, x3, x4, x5, q⟩ => ⟨it, fp, tn, J, H', x1, x2, x3, x4, x5, fun Dw hD => ?_⟩
  obtain ⟨W, w0, turn⟩ := q Dw hD
  refine ⟨W, w0, fun j m H2 w2 => ?_⟩
  rcases turn j m H2 w2 with ⟨st, d, G2, r2, s2, e2, q2⟩ | z
  · exact .inl ⟨st, _, G2, (rs.mono e2.tup).set i r2, s2, e2, q2⟩
  · exact .inr z
theorem WS.lockN {st : Stmt} {D : Ends} {σ : L2.St} {H : Hp} (h : WS X st ⟨fun σ' H' => ∃ p vs, H' p = some (.lst vs) ∧ ∀ od, D.nx σ' (upd H' p (.frz od (.lst vs))), D.rt, D.bk, D.ct⟩ σ H) : WS X st D σ H := fun pins s I =>
  thn (h pins s I) fun f s' q => by
    cases f with
    | next =>
      obtain ⟨σ', H', I', p, vs, hp, q⟩ := q
      obtain ⟨od, I2⟩ := I'.lock hp True.intro
      exact ⟨σ', _, I2, q od⟩
    | brk => exact q
    | cont => exact q
    | ret u => exact q
theorem qs_setLcV {i : Nat} {y : Str} {py spos : Pos} (hc : X.calm = true) (hN : X.N.Nodup) (hy : X.N[i]? = some y) (hyl : X.env.scope.names.lookup y = some .local)
    (hsw : swapsWith (.ListComp elt [⟨tg, iter, ifs, 0⟩] scope pos) (some (.Name y py)) spos.line X.env = pure true)
    (hi : QI X tg iter wi) (ok : BlkOk X.N X.env.scope scope own) (hg : ∀ Y, Blk X scope Y → QG Y tg S g) (ht : ∀ Y, Blk X scope Y → QTs Y ifs tt) (he : ∀ Y, Blk X scope Y → QE Y elt te) (hS : ∀ j ∈ S, j ∈ own.map (·.2)) (hs : noSet iter = true) :
    QS X (.Assign [.Name y py] (.ListComp elt [⟨tg, iter, ifs, 0⟩] scope pos) spos) (sAsg (dLcV wi g tt te (own.map (·.2))) (gNm i)) := by
  refine ⟨fun D ρ G σ H h rs s tk => WS.lockN ?_⟩
  refine PS.ws (ps_setLc hc hN hy hyl hsw pi_max ok pg_blk pts_blk pe_blk (folded_no hs)) ?_
  have m := lc_ hi hg ht he hS h rs s (tk.tk rs) (R := fun v H2 => ∃ p vs, v = .ref p ∧ H2 p = some (.lst vs) ∧ ∀ od, Lift X.K G H (fun x G1 => D.nx (ρ.set i (some x)) G1) (.ref p) (upd H2 p (.frz od (.lst vs)))) fun Dw acc vs G' H2 a b c d e f g => ⟨Dw, vs, rfl, b, fun od => lc_lock (Q := fun x G1 => D.nx (ρ.set i (some x)) G1) a b c d e f g⟩
  refine fun pins s0 I => thn (m pins s0 I) fun v s1 h1 => thn h1 fun itv s2 ⟨it, fp, tn, J, H', x1, x2, x3, x4, x5, q⟩ => ⟨it, fp, tn, J, H', x1, x2, x3, x4, x5, fun Dw hD => ?_⟩
  obtain ⟨W, w0, turn⟩ := q Dw hD
  refine ⟨W, w0, fun j m H2 w2 => ?_⟩
  rcases turn j m H2 w2 with ⟨st, p, vs, ep, hp, q⟩ | z
  · cases ep
    refine .inl ⟨st, Dw, vs, hp, fun od => ?_⟩
    obtain ⟨d, G2, r2, s2, e2, q2⟩ := q od
    exact ⟨_, G2, (rs.mono e2.tup).set i r2, s2, e2, q2⟩
  · exact .inr z
end
end
end DL

namespace DL
open PySem PySem.Spec PyProof.Rows L2
/-! list(range(n)), tuple(range(n)) -/
def rgK (l : Bool) (x : D) (G : Sto) (Q : DQ) : Prop := match x with
  | .int n => (0 ≤ n ∧ n < 16777216) ∧ (if l = true then ∀ p, G p = none → Q (.ref p) (put G p (.lst (rangeD 0 n.toNat))) else Q (.tup (rangeD 0 n.toNat)) G)
  | _ => False
def dRg (l : Bool) (t : DE) : DE := fun ρ G Q xq => t ρ G (fun x G1 => rgK l x G1 Q) xq
theorem reps_map {K : PySem.W.Frag} {H : Hp} (f : Nat → V) (g : Nat → D) (h : ∀ i, Rep K H (f i) (g i)) : ∀ l : List Nat, Reps K H (l.map f) (l.map g)
  | [] => .nil
  | a :: l => .cons (h a) (reps_map f g h l)
theorem reps_rg {K : PySem.W.Frag} {H : Hp} {n : Int} : Reps K H (rgV 0 n) (rangeD 0 n.toNat) := by
  unfold rgV rangeD
  rw [Int.sub_zero]
  exact reps_map _ _ (fun i => .int _) _
section
variable {X : Cx} {e : Expr} {te : DE} {p p2 pos pos2 : Pos}
theorem qe_rgL (hc : X.calm = true) (hg : Gl X "list") (hm : X.mg "list" = none) (hg2 : Gl X "range") (hm2 : X.mg "range" = none) (he : QE X e te) (hn : noStar e = true) (hn2 : noStar (.Call (.Name "range" p2) [e] [] pos2) = true) : QE X (.Call (.Name "list" p) [.Call (.Name "range" p2) [e] [] pos2] [] pos) (dRg true te) := by
  refine ⟨fun ρ G Q xq σ H h rs s tk => ?_⟩
  refine PE.we (pe_listRg hc hg hm (prg_1 hg2 hm2 pe_max (starEach_cons hn)) (starEach_cons hn2)) ((he.run ρ G _ xq σ H h rs s tk).imp fun v H1 ⟨x, G1, rx, s1, e1, q1⟩ => ?_)
  have q1 : rgK true x G1 Q := q1
  unfold rgK at q1
  split at q1
  · cases rx
    obtain ⟨⟨h0, h1⟩, q⟩ := q1
    exact ⟨_, rfl, RgOk.of_le (by decide) (by omega) (by decide) h0, fun q' hq => Lift.back e1 _ _ (lift_lst reps_rg s1 q hq)⟩
  · exact q1.elim
theorem qe_rgT (hc : X.calm = true) (hg : Gl X "tuple") (hm : X.mg "tuple" = none) (hg2 : Gl X "range") (hm2 : X.mg "range" = none) (he : QE X e te) (hn : noStar e = true) (hn2 : noStar (.Call (.Name "range" p2) [e] [] pos2) = true) : QE X (.Call (.Name "tuple" p) [.Call (.Name "range" p2) [e] [] pos2] [] pos) (dRg false te) := by
  refine ⟨fun ρ G Q xq σ H h rs s tk => ?_⟩
  refine PE.we (pe_tupRg hc hg hm (prg_1 hg2 hm2 pe_max (starEach_cons hn)) (starEach_cons hn2)) ((he.run ρ G _ xq σ H h rs s tk).imp fun v H1 ⟨x, G1, rx, s1, e1, q1⟩ => ?_)
  have q1 : rgK false x G1 Q := q1
  unfold rgK at q1
  split at q1
  · cases rx
    obtain ⟨⟨h0, h1⟩, q⟩ := q1
    exact ⟨_, rfl, RgOk.of_le (by decide) (by omega) (by decide) h0, fun q' hq => Lift.back e1 _ _ (lift_tup reps_rg s1 q hq)⟩
  · exact q1.elim
end
end DL

namespace DL
open PySem PySem.Spec PyProof.Rows L2 RT
/-! sorted(set(e)), len(set(e)) -/
theorem ddAll_srtS {ns : List Str} : (ddAll (ns.map Sum.inr)).length = (srtO ltS ns).length := by
  have p : (ddAll (ns.map Sum.inr)).Perm ((srtO ltS ns).map (Sum.inr : Str → Key)) :=
    (List.perm_ext_iff_of_nodup nodup_ddAll (List.Pairwise.map _ (fun a b h e => h (by cases e; rfl)) (srtO_nodup linS))).mpr fun z => by
      rw [mem_ddAll]
      cases z with
      | inl i => simp
      | inr x => rw [inr_inj, inr_inj, mem_srtO linS]
  rw [p.length_eq, List.length_map]
theorem ddAll_srtI {ns : List Int} : (ddAll (ns.map Sum.inl)).length = (srtO ltI ns).length := by
  have p : (ddAll (ns.map Sum.inl)).Perm ((srtO ltI ns).map (Sum.inl : Int → Key)) :=
    (List.perm_ext_iff_of_nodup nodup_ddAll (List.Pairwise.map _ (fun a b h e => h (by cases e; rfl)) (srtO_nodup linI))).mpr fun z => by
      rw [mem_ddAll]
      cases z with
      | inl i => rw [inl_inj, inl_inj, mem_srtO linI]
      | inr x => simp
  rw [p.length_eq, List.length_map]
theorem kV_strs (ns : List Str) : (ns.map (Sum.inr : Str → Key)).map kV = ns.map V.str := by rw [List.map_map]; rfl
theorem kV_ints (ns : List Int) : (ns.map (Sum.inl : Int → Key)).map kV = ns.map V.int := by rw [List.map_map]; rfl
section
variable {X : Cx} {e o f : Expr} {te to tf : DE} {p p2 pos pos2 apos cpos : Pos}
/-- set(e), told of the heap behind it -/
def SetQ (X : Cx) (K : PySem.W.Frag) (pins : List (Addr × Obj)) (σ : L2.St) (H1 : Hp) (ks : List Key) (v : Value) (s2 : Shared) : Prop :=
  ∃ a, v = .ref a ∧ Inv X pins σ H1 s2 ∧ SetM X.prog X.w s2.heap a (ddAll ks)
theorem setM_call {pins : List (Addr × Obj)} {σ : L2.St} {H1 : Hp} {s1 : Shared} {a : Addr} {ks : List Key} {R : Value → Shared → Prop} (hc : X.calm = true) (I1 : Inv X pins σ H1 s1)
    (hq : SqL X.K H1 a (ks.map kV) ∨ SqT X.K H1 a (ks.map kV)) (hl : ks.length < 4000) (h : ∀ v s2, SetQ X X.K pins σ H1 ks v s2 → R v s2) : wpAny (model X.prog X.w) X.A (call (.type "set") [.ref a]) R X.xe s1 := by
  have hd := I1.ok.hd hc
  rcases hq with hq | hq
  · obtain ⟨its, rv, pl, hz⟩ := I1.list hq
    exact call_setM_list ks hd pl.isList (by simpa using rv) (by unfold scanBound; omega) fun h' tk R1 k => h _ _ ⟨_, rfl, I1.kept fun b o e => k b o e, R1⟩
  · obtain ⟨its, rv, pl, hz⟩ := I1.tuple hq
    exact call_setM_tuple ks hd (show s1.heap.IsTuple a its.toArray from pl) (by simpa using rv) (by unfold scanBound; omega) fun h' tk R1 k => h _ _ ⟨_, rfl, I1.kept fun b o e => k b o e, R1⟩
def rSset (K : PySem.W.Frag) (x : V) (H : Hp) (Q : VK) : Prop := ∃ a, x = .ref a ∧ ((∃ ns : List Int, (SqL K H a (ns.map V.int) ∨ SqT K H a (ns.map V.int)) ∧ ns.length < 4000 ∧ (srtO ltI ns).length < 64 ∧ ∀ b, H b = none → Q (.ref b) (upd H b (.lst ((srtO ltI ns).map V.int)))) ∨
  ∃ ns : List Str, (SqL K H a (ns.map V.str) ∨ SqT K H a (ns.map V.str)) ∧ ns.length < 4000 ∧ (srtO ltS ns).length < 64 ∧ ∀ b, H b = none → Q (.ref b) (upd H b (.lst ((srtO ltS ns).map V.str))))
theorem pe_ssetM {t : TE} (hc : X.calm = true) (hg : Gl X "sorted") (hm : X.mg "sorted" = none) (hg2 : Gl X "set") (hm2 : X.mg "set" = none) (he : PE X e t) (hn : noStar e = true) :
    PE X (.Call (.Name "sorted" p) [.Call (.Name "set" p2) [e] [] pos2] [] pos) (fun σ H Q => t σ H fun x H1 => rSset X.K x H1 Q) := by
  refine ⟨fun pins s σ H Q I h => ?_⟩
  have na := starEach_cons (es := []) (env := X.env) hn
  have na2 : starEach [.Call (.Name "set" p2) [e] [] pos2] X.env = (false, eval (.Call (.Name "set" p2) [e] [] pos2) X.env) :: starEach [] X.env := starEach_cons rfl
  refine wpAny_Call_Name_kw (ld_blt I hg hm (show bootBuiltins "sorted" = some (.builtin "sorted") from Bl.sorted.boot) ?_ (by decide) (by decide))
  refine PyProof.Rows.callWith_builtin1 (args_cons ?_ na2) na2 rfl
  refine Call_ (ld_blt I hg2 hm2 PyProof.Rows.boot_set (PyProof.Rows.callWith_type1 (args_cons (thn (he.run pins s σ H _ I h) fun v s1 ⟨x, H1, I1, r1, q1⟩ => args_nil ?_) na) na rfl))
  obtain ⟨a, ex, q1⟩ := q1
  subst ex
  obtain rfl : v = Value.ref a := r1
  have hd := I1.ok.hd hc
  have fin : ∀ {s2 s3 : Shared} {b : Addr} {vs : List V} {out : Array Value} {c : Nat}, Inv X pins σ H1 s2 → (∀ b o, s2.heap.get? b = some o → s3.heap.get? b = some o) → s3.gens = s2.gens → s3.os = s2.os → s2.heap.objs.size ≤ b →
      s3.heap.get? b = some (seqObj "list" out c) → Vals vs out.toList → vs.length < 64 → (∀ b, H1 b = none → Q (.ref b) (upd H1 b (.lst vs))) → EP X pins σ Q (.ref b) s3 := by
    intro s2 s3 b vs out c I2 k g o hle hob hI hl q
    have new : ObjOk X.prog X.w (upd H1 b (.lst vs)) s3.heap b (.lst vs) := ⟨Nat.le_trans (show vs.length ≤ 64 by omega) (by decide), out.toList, c, hI, by rw [Array.toArray_toList]; exact hob⟩
    exact ⟨.ref b, upd H1 b (.lst vs), I2.call' (ch := []) o (Un.laid k hle (I2.hok.fresh hle)) (I2.hok.laid k hle new) (by rw [g]; exact I2.bare) (fun _ z => nomatch z), rfl, q b (I2.hok.fresh hle)⟩
  rcases q1 with ⟨ns, hq, hl, h64, q⟩ | ⟨ns, hq, hl, h64, q⟩
  · rw [← kV_ints] at hq
    refine setM_call hc I1 hq (by rw [List.length_map]; exact hl) fun v s2 ⟨b, ev, I2, R2⟩ => args_nil ?_
    subst ev
    exact sortedM_int (xs := ns) R2 (fun k => by rw [mem_ddAll]) hd (by rw [ddAll_srtI]; exact h64) fun s3 b out c k g o hle hob hI => fin I2 k g o hle hob (vals_of_ints hI) (by rw [List.length_map]; exact h64) q
  · rw [← kV_strs] at hq
    refine setM_call hc I1 hq (by rw [List.length_map]; exact hl) fun v s2 ⟨b, ev, I2, R2⟩ => args_nil ?_
    subst ev
    exact sortedM_str (xs := ns) R2 (fun k => by rw [mem_ddAll]) hd (by rw [ddAll_srtS]; exact h64) fun s3 b out c k g o hle hob hI => fin I2 k g o hle hob (vals_of_strs hI) (by rw [List.length_map]; exact h64) q
def rLset (K : PySem.W.Frag) (x : V) (H : Hp) (Q : VK) : Prop := ∃ a, x = .ref a ∧ ∃ ns : List Str, (SqL K H a (ns.map V.str) ∨ SqT K H a (ns.map V.str)) ∧ ns.length < 4000 ∧ Q (.int (srtO ltS ns).length) H
theorem pe_lsetM {t : TE} (hc : X.calm = true) (hg : Gl X "len") (hm : X.mg "len" = none) (hg2 : Gl X "set") (hm2 : X.mg "set" = none) (he : PE X e t) (hn : noStar e = true) :
    PE X (.Call (.Name "len" p) [.Call (.Name "set" p2) [e] [] pos2] [] pos) (fun σ H Q => t σ H fun x H1 => rLset X.K x H1 Q) := by
  refine ⟨fun pins s σ H Q I h => ?_⟩
  have na := starEach_cons (es := []) (env := X.env) hn
  have na2 : starEach [.Call (.Name "set" p2) [e] [] pos2] X.env = (false, eval (.Call (.Name "set" p2) [e] [] pos2) X.env) :: starEach [] X.env := starEach_cons rfl
  refine wpAny_Call_Name_kw (ld_blt I hg hm (show bootBuiltins "len" = some (.builtin "len") from Bl.len.boot) ?_ (by decide) (by decide))
  refine PyProof.Rows.callWith_builtin1 (args_cons ?_ na2) na2 rfl
  refine Call_ (ld_blt I hg2 hm2 PyProof.Rows.boot_set (PyProof.Rows.callWith_type1 (args_cons (thn (he.run pins s σ H _ I h) fun v s1 ⟨x, H1, I1, r1, q1⟩ => args_nil ?_) na) na rfl))
  obtain ⟨a, ex, ns, hq, hl, q⟩ := q1
  subst ex
  obtain rfl : v = Value.ref a := r1
  rw [← kV_strs] at hq
  refine setM_call hc I1 hq (by rw [List.length_map]; exact hl) fun v s2 ⟨b, ev, I2, R2⟩ => args_nil ?_
  subst ev
  obtain ⟨oo, es, ep, t, ho, hex, hd, _, pk, _, hb, hf, _⟩ := R2
  have hsz : es.size = (srtO ltS ns).length := by rw [← ddAll_srtS, ← pk.length_eq, List.length_map, Array.length_toList]
  refine call_len_set ho hex hd hf (by unfold scanBound at hb; omega) ⟨.int (srtO ltS ns).length, H1, I2.tok _, ⟨_, by rw [hsz]⟩, q⟩
def ssetD (d : D) (G : Sto) (Q : DQ) : Prop := seqD d G fun ds => (∃ ns : List Int, ds = ns.map D.int ∧ ns.length < 4000 ∧ (srtO ltI ns).length < 64 ∧ ∀ b, G b = none → Q (.ref b) (put G b (.lst ((srtO ltI ns).map D.int)))) ∨
  ∃ ns : List Str, ds = ns.map D.str ∧ ns.length < 4000 ∧ (srtO ltS ns).length < 64 ∧ ∀ b, G b = none → Q (.ref b) (put G b (.lst ((srtO ltS ns).map D.str)))
theorem qe_sset (hc : X.calm = true) (hg : Gl X "sorted") (hm : X.mg "sorted" = none) (hg2 : Gl X "set") (hm2 : X.mg "set" = none) (he : QE X e te) (hn : noStar e = true) :
    QE X (.Call (.Name "sorted" p) [.Call (.Name "set" p2) [e] [] pos2] [] pos) (dUn ssetD te) := by
  refine ⟨fun ρ G Q xq σ H h rs s tk => ?_⟩
  refine PE.we (pe_ssetM hc hg hm hg2 hm2 pe_max hn) ((he.run ρ G _ xq σ H h rs s tk).imp fun v H1 ⟨x, G1, rx, s1, e1, q1⟩ => ?_)
  have q1 : ssetD x G1 Q := q1
  obtain ⟨a, vs, ds, rfl, hs, r1, q⟩ := seq_ q1 rx s1
  refine ⟨a, rfl, ?_⟩
  rcases q with ⟨ns, rfl, hl, h64, q⟩ | ⟨ns, rfl, hl, h64, q⟩
  · rw [r1.ints] at hs
    exact .inl ⟨ns, hs, hl, h64, fun b hb => Lift.back e1 _ _ (lift_lst (reps_ints _) s1 q hb)⟩
  · rw [r1.strs] at hs
    exact .inr ⟨ns, hs, hl, h64, fun b hb => Lift.back e1 _ _ (lift_lst (reps_strs _) s1 q hb)⟩
def ssetV (d : D) (G : Sto) (Q : DQ) : Prop := seqD d G fun ds => (∃ ns : List Int, ds = ns.map D.int ∧ ns.length < 4000 ∧ (srtO ltI ns).length < 64 ∧ Q (.rl ((srtO ltI ns).map D.int)) G) ∨
  ∃ ns : List Str, ds = ns.map D.str ∧ ns.length < 4000 ∧ (srtO ltS ns).length < 64 ∧ Q (.rl ((srtO ltS ns).map D.str)) G
theorem qe_ssetV (hc : X.calm = true) (hg : Gl X "sorted") (hm : X.mg "sorted" = none) (hg2 : Gl X "set") (hm2 : X.mg "set" = none) (he : QE X e te) (hn : noStar e = true) :
    QE X (.Call (.Name "sorted" p) [.Call (.Name "set" p2) [e] [] pos2] [] pos) (dUn ssetV te) := by
  refine ⟨fun ρ G Q xq σ H h rs s tk => WE.val ?_⟩
  refine PE.we (pe_ssetM hc hg hm hg2 hm2 pe_max hn) ((he.run ρ G _ xq σ H h rs s tk).imp fun v H1 ⟨x, G1, rx, s1, e1, q1⟩ => ?_)
  have q1 : ssetV x G1 Q := q1
  obtain ⟨a, vs, ds, rfl, hs, r1, q⟩ := seq_ q1 rx s1
  refine ⟨a, rfl, ?_⟩
  rcases q with ⟨ns, rfl, hl, h64, q⟩ | ⟨ns, rfl, hl, h64, q⟩
  · rw [r1.ints] at hs
    exact .inl ⟨ns, hs, hl, h64, fun b hb => ⟨b, _, _, G1, H1, rfl, rfl, hb, reps_ints _, s1, e1, q⟩⟩
  · rw [r1.strs] at hs
    exact .inr ⟨ns, hs, hl, h64, fun b hb => ⟨b, _, _, G1, H1, rfl, rfl, hb, reps_strs _, s1, e1, q⟩⟩
/-- list(e) by value -/
def lofV (d : D) (G : Sto) (Q : DQ) : Prop := seqD d G fun ds => Q (.rl ds) G
theorem qe_lofV (hg : Gl X "list") (hm : X.mg "list" = none) (he : QE X e te) (hn : noStar e = true) : QE X (.Call (.Name "list" p) [e] [] pos) (dUn lofV te) := by
  refine ⟨fun ρ G Q xq σ H h rs s tk => WE.val ?_⟩
  refine PE.we (pe_callTy (T := "list") call_list_of hg hm Bl.list.boot (pa_cons pe_max pa_nil (starEach_cons hn)) (by decide) (by decide) (starEach_cons hn) rfl) ((he.run ρ G _ xq σ H h rs s tk).imp fun v H1 ⟨x, G1, rx, s1, e1, q1⟩ => ?_)
  have q1 : lofV x G1 Q := q1
  obtain ⟨a, vs, ds, rfl, hs, r1, q⟩ := seq_ q1 rx s1
  exact ⟨a, _, rfl, hs, fun b hb => ⟨b, _, _, G1, H1, rfl, rfl, hb, r1, s1, e1, q⟩⟩
/-- sorted(e) of a short list, by value -/
def sofV (d : D) (G : Sto) (Q : DQ) : Prop := lstD d G fun ys => (∃ ns : List Int, ys = ns.map D.int ∧ ns.length < 64 ∧ ∀ ns' : List Int, ns'.Perm ns → ns'.Pairwise (· ≤ ·) → Q (.rl (ns'.map D.int)) G) ∨
  ∃ ns : List Str, ys = ns.map D.str ∧ ns.length < 64 ∧ ∀ ns' : List Str, ns'.Perm ns → sortedS ns' = true → Q (.rl (ns'.map D.str)) G
theorem qe_sofV (hg : Gl X "sorted") (hm : X.mg "sorted" = none) (he : QE X e te) (hn : noStar e = true) : QE X (.Call (.Name "sorted" p) [e] [] pos) (dUn sofV te) := by
  refine ⟨fun ρ G Q xq σ H h rs s tk => WE.val ?_⟩
  have both : CallR X (.builtin "sorted") (fun vs H Q => rSorted X.K vs H Q ∨ rSortedS X.K vs H Q) := fun pins s σ H xs us Q I r q => by
    rcases q with q | q
    · exact cr_sorted pins s σ H xs us Q I r q
    · exact cr_sortedS pins s σ H xs us Q I r q
  refine PE.we (pe_callB (id := "sorted") both hg hm Bl.sorted.boot (pa_cons pe_max pa_nil (starEach_cons hn)) (by decide) (by decide) (starEach_cons hn) rfl) ((he.run ρ G _ xq σ H h rs s tk).imp fun v H1 ⟨x, G1, rx, s1, e1, q1⟩ => ?_)
  have q1 : sofV x G1 Q := q1
  obtain ⟨a, vs, ds, rfl, hs, r1, ⟨ns, rfl, hl, q⟩ | ⟨ns, rfl, hl, q⟩⟩ := lst_ q1 rx s1
  · rw [r1.ints] at hs
    exact .inl ⟨a, ns, rfl, hs, hl, fun ns' b h1 h2 hb => ⟨b, _, _, G1, H1, rfl, rfl, hb, reps_ints _, s1, e1, q ns' h1 h2⟩⟩
  · rw [r1.strs] at hs
    exact .inr ⟨a, ns, rfl, hs, hl, fun ns' b h1 h2 hb => ⟨b, _, _, G1, H1, rfl, rfl, hb, reps_strs _, s1, e1, q ns' h1 h2⟩⟩
/-- list(range(n)) by value -/
def rgVD (x : D) (G : Sto) (Q : DQ) : Prop := match x with
  | .int n => (0 ≤ n ∧ n < 16777216) ∧ Q (.rl (rangeD 0 n.toNat)) G
  | _ => False
theorem qe_rgV (hc : X.calm = true) (hg : Gl X "list") (hm : X.mg "list" = none) (hg2 : Gl X "range") (hm2 : X.mg "range" = none) (he : QE X e te) (hn : noStar e = true) : QE X (.Call (.Name "list" p) [.Call (.Name "range" p2) [e] [] pos2] [] pos) (dUn rgVD te) := by
  refine ⟨fun ρ G Q xq σ H h rs s tk => WE.val ?_⟩
  refine PE.we (pe_listRg hc hg hm (prg_1 hg2 hm2 pe_max (starEach_cons hn)) (starEach_cons rfl)) ((he.run ρ G _ xq σ H h rs s tk).imp fun v H1 ⟨x, G1, rx, s1, e1, q1⟩ => ?_)
  have q1 : rgVD x G1 Q := q1
  unfold rgVD at q1
  split at q1
  · cases rx
    obtain ⟨⟨h0, h1⟩, q⟩ := q1
    exact ⟨_, rfl, RgOk.of_le (by decide) (by omega) (by decide) h0, fun b hb => ⟨b, _, _, G1, H1, rfl, rfl, hb, reps_rg, s1, e1, q⟩⟩
  · exact q1.elim
/-- a.split(b) by value -/
def splV (x y : D) (G : Sto) (Q : DQ) : Prop := match x, y with
  | .str a, .str b => (b.length == 0) = false ∧ a.length + 2 ≤ sizeLine ∧ Q (.rl ((Txt.split a b).map D.str)) G
  | _, _ => False
def isStrD : D → Bool
  | .str _ => true
  | _ => false
def dSplV (to te : DE) : DE := fun ρ G Q xq => to ρ G (fun x G1 => isStrD x = true ∧ te ρ G1 (fun y G2 => splV x y G2 Q) xq) xq
theorem qe_splV (ho : QE X o to) (he : QE X e te) (hb : baseOk o = true) (hn : noStar e = true) (hl : (apos.endLine == cpos.line) = true) : QE X (.Call (.Attribute o "split" apos) [e] [] cpos) (dSplV to te) := by
  refine ⟨fun ρ G Q xq σ H h rs s tk => WE.val ?_⟩
  refine PE.we (pe_bm PySem.F.plainAttrs_str PySem.F.slot_str_split PySem.F.type_str_split mt_split pe_max (pa_cons pe_max pa_nil (starEach_cons hn)) (base_ok hb) (by rw [starEach_cons hn]; rfl) hl (starEach_cons hn) rfl) ?_
  refine (ho.run ρ G _ xq σ H h rs s tk).imp fun v H1 ⟨x, G1, rx, s1, e1, hx, q1⟩ => ⟨?_, ?_⟩
  · cases x with
    | str z => cases rx; rfl
    | _ => cases hx
  · refine (he.run ρ G1 _ xq σ H1 q1 (rs.mono e1.tup) s1 (tk.step e1)).imp fun u H2 ⟨y, G2, ry, s2, e2, q2⟩ => ?_
    have q2 : splV x y G2 Q := q2
    unfold splV at q2
    split at q2
    · cases rx; cases ry
      exact ⟨_, _, rfl, rfl, q2.1, q2.2.1, fun b hb => ⟨b, _, _, G2, H2, rfl, rfl, hb, reps_strs _, s2, e1.trans e2, q2.2.2⟩⟩
    · exact q2.elim
/-! a written dict by value -/
def dDispV (r : DKv) : DE := fun ρ G Q xq => r ρ G (fun ps G2 => ∃ kvs, ps = kvDs kvs ∧ kvs.length ≤ 15 ∧ unlike (kvs.map (·.1)) = true ∧ Q (.rd (kvs.map (·.1)) (kvs.map (·.2))) G2) xq
theorem repKV_keys {K : PySem.W.Frag} {H : Hp} : ∀ {m : List (Key × V)} {kvs : List (Key × D)}, RepKV K H m kvs → m.map (·.1) = kvs.map (·.1) ∧ Reps K H (m.map (·.2)) (kvs.map (·.2))
  | [], [], _ => ⟨rfl, .nil⟩
  | (k, v) :: r, (j, d) :: q, ⟨e, rv, rr⟩ => by
    obtain ⟨h1, h2⟩ := repKV_keys rr
    exact ⟨by rw [List.map_cons, List.map_cons, h1, e], .cons rv h2⟩
  | [], _ :: _, h => h.elim
  | _ :: _, [], h => h.elim
theorem WE.lockD {σ : L2.St} {H : Hp} {Q : VK} (h : WE X e σ H fun v H' => ∃ p m, v = .ref p ∧ H' p = some (.dK m) ∧ ∀ od, Q (.ref p) (upd H' p (.frz od (.dK m)))) : WE X e σ H Q := fun pins s I =>
  thn (h pins s I) fun u s' ⟨x, H', I', r, p, vs, ex, hp, q⟩ => by
    subst ex
    obtain ⟨od, I2⟩ := I'.lock hp True.intro
    exact ⟨.ref p, _, I2, r, q od⟩
theorem lift_rd {K : PySem.W.Frag} {G G2 : Sto} {H H2 : Hp} {Q : DQ} {p : Addr} {od : Obj} {m : List (Key × V)} {kvs : List (Key × D)} (hp : H p = none) (h2 : H2 p = some (.dK [])) (g2 : G2 p = none) (s2 : Sim K G2 H2) (e : Ext K G H G2 H2) (rm : RepKV K H2 m kvs)
    (hu : unlike (kvs.map (·.1)) = true) (q : Q (.rd (kvs.map (·.1)) (kvs.map (·.2))) G2) : Lift K G H Q (.ref p) (upd (upd H2 p (.dK (mergeK [] m))) p (.frz od (.dK (mergeK [] m)))) := by
  rw [upd_upd]
  have t8 : TupExt K H2 (upd H2 p (.frz od (.dK (mergeK [] m)))) := tup_mut h2 rfl
  obtain ⟨k1, k2⟩ := repKV_keys ((rm.mono t8).merge (m := []) (kvs := []) True.intro)
  rw [mergeD_app kvs [] hu (fun _ z => by cases z), List.nil_append] at k1 k2
  refine ⟨_, G2, .rd upd_same k1 k2, fun a c hac => ?_, ⟨e.tup.trans t8, fun a o z1 z2 => ?_⟩, q⟩
  · have ne : a ≠ p := fun z => by
      subst z
      rw [g2] at hac
      cases hac
    exact (s2 a c hac).mono t8 (upd_ne ne)
  · have ne : a ≠ p := ne_of_none z1 hp
    rw [upd_ne ne]
    exact e.frm a o z1 z2
theorem qe_dispV {ks : List (Option Expr)} {vs : List Expr} {r : DKv} (h : QKv X ks vs r) (h15 : ks.length ≤ 15) : QE X (.Dict ks vs pos) (dDispV r) := by
  refine ⟨fun ρ G Q xq σ H hq rs s tk => WE.lockD ?_⟩
  by_cases hne : ks = []
  · subst hne
    have hv : vs = [] := List.eq_nil_of_length_eq_zero (by rw [← h.len]; rfl)
    subst hv
    refine PE.we pe_dnewK fun p hp => ?_
    have en : Ext X.K G H G (upd H p (.dK [])) := .newT hp
    have sn : Sim X.K G (upd H p (.dK [])) := s.newT hp
    obtain ⟨prs, G2, rp, s2, e2, kvs, ek, hl, hu, q⟩ := h.run ρ _ _ xq σ (upd H p (.dK [])) hq (rs.mono en.tup) sn (tk.step en)
    subst ek
    have hk0 : kvs = [] := by
      cases kvs with
      | nil => rfl
      | cons a b => exact rp.elim
    subst hk0
    refine ⟨p, [], rfl, upd_same, fun od => ?_⟩
    have z := lift_rd (od := od) (m := []) (kvs := []) hp upd_same (e2.frm p _ upd_same (s.free hp)).2 s2 (en.trans e2) True.intro hu q
    rw [upd_upd] at z ⊢
    rw [upd_upd] at z
    exact z
  refine PE.we (pe_disp (h.pp pos) h.all h.len hne h15) fun p hp => ?_
  have en : Ext X.K G H G (upd H p (.dK [])) := .newT hp
  have sn : Sim X.K G (upd H p (.dK [])) := s.newT hp
  refine tPairs_imp (trs_we _ _) (h.run ρ _ _ xq σ (upd H p (.dK [])) hq (rs.mono en.tup) sn (tk.step en)) fun ps H2 ⟨prs, G2, rp, s2, e2, kvs, ek, hl, hu, q⟩ => ?_
  subst ek
  obtain ⟨m, em, rm⟩ := repP_keys rp
  have f2 := e2.frm p _ upd_same (s.free hp)
  exact ⟨f2.1, m, em, by rw [rm.length]; exact hl, p, _, rfl, upd_same, fun od => lift_rd hp f2.1 f2.2 s2 (en.trans e2) rm hu q⟩
def lsetD (d : D) (G : Sto) (Q : DQ) : Prop := seqD d G fun ds => ∃ ns : List Str, ds = ns.map D.str ∧ ns.length < 4000 ∧ Q (.int (srtO ltS ns).length) G
theorem qe_lset (hc : X.calm = true) (hg : Gl X "len") (hm : X.mg "len" = none) (hg2 : Gl X "set") (hm2 : X.mg "set" = none) (he : QE X e te) (hn : noStar e = true) :
    QE X (.Call (.Name "len" p) [.Call (.Name "set" p2) [e] [] pos2] [] pos) (dUn lsetD te) := by
  refine ⟨fun ρ G Q xq σ H h rs s tk => ?_⟩
  refine PE.we (pe_lsetM hc hg hm hg2 hm2 pe_max hn) ((he.run ρ G _ xq σ H h rs s tk).imp fun v H1 ⟨x, G1, rx, s1, e1, q1⟩ => ?_)
  have q1 : lsetD x G1 Q := q1
  obtain ⟨a, vs, ds, rfl, hs, r1, ns, rfl, hl, q⟩ := seq_ q1 rx s1
  rw [r1.strs] at hs
  exact ⟨a, rfl, ns, hs, hl, _, G1, .int _, s1, e1, q⟩
/-! d.get(k), d.get(k, x) -/
def isDic (d : D) (G : Sto) (k : Addr → List (Key × D) → Prop) : Prop := match d with
  | .ref a => ∃ kvs, G a = some (.dK kvs) ∧ k a kvs
  | _ => False
theorem isD_of {K : PySem.W.Frag} {G : Sto} {H : Hp} {a : Addr} {kvs : List (Key × D)} (s : Sim K G H) (g : G a = some (.dK kvs)) : IsD H a := by
  obtain ⟨m, h, _⟩ := s a _ g
  exact .inl ⟨m, .inl h⟩
def dGet1 (to te : DE) : DE := fun ρ G Q xq => to ρ G (fun x G1 => match x with
  | .rd ks ds => te ρ G1 (fun y G2 => ∃ k, keyD y = some k ∧ Q ((valR ks ds k).getD .non) G2) xq
  | x => isDic x G1 fun a _ => te ρ G1 (fun y G2 => ∃ kvs k, G2 a = some (.dK kvs) ∧ keyD y = some k ∧ Q ((valD kvs k).getD .non) G2) xq) xq
theorem m1_of (hb : baseOk o = true) (hn : noStar e = true) (hl : (apos.endLine == cpos.line) = true) {m : Str} : M1 X o m apos e cpos where
  base := base_ok hb
  few := by
    rw [starEach_cons hn]
    rfl
  line := hl
  trees := by
    rw [starEach_cons hn]
    rfl
theorem m2_of (hb : baseOk o = true) (hn : noStar e = true) (hn2 : noStar f = true) (hl : (apos.endLine == cpos.line) = true) {m : Str} : M2 X o m apos e f cpos where
  base := base_ok hb
  few := by
    rw [starEach_cons hn, starEach_cons hn2]
    rfl
  line := hl
  trees := by
    rw [starEach_cons hn, starEach_cons hn2]
    rfl
/-- what a dict tells at a key -/
theorem dgo_of {K : PySem.W.Frag} {G : Sto} {H : Hp} {a : Addr} {kvs : List (Key × D)} {y z : D} {k : Key} {u v : V} (s : Sim K G H) (g : G a = some (.dK kvs)) (hk : keyD y = some k) (ry : Rep K H u y) (rz : Rep K H v z) :
    ∃ o, DGet H a u o ∧ Rep K H (o.getD v) ((valD kvs k).getD z) := by
  obtain ⟨m, hm, rm⟩ := s a _ g
  obtain rfl := keyD_rep hk ry
  have hv := rm.val k
  refine ⟨valV m k, DGet.k hm, ?_⟩
  cases e : valD kvs k with
  | none => rw [hv.2 e]; exact rz
  | some d =>
    obtain ⟨w, h1, h2⟩ := hv.1 d e
    rw [h1]
    exact h2
theorem rd_at {K : PySem.W.Frag} {H : Hp} {ks : List Key} {ds : List D} {v : V} (r : Rep K H v (.rd ks ds)) : ∃ a, v = .ref a ∧ IsD H a := by
  cases r with
  | rd h e r1 => exact ⟨_, rfl, .inl ⟨_, .inr ⟨_, h⟩⟩⟩
theorem dgoR_of {K : PySem.W.Frag} {H : Hp} {ks : List Key} {ds : List D} {y z : D} {k : Key} {u v : V} {a : Addr} (rx : Rep K H (.ref a) (.rd ks ds)) (hk : keyD y = some k) (ry : Rep K H u y) (rz : Rep K H v z) :
    ∃ o, DGet H a u o ∧ Rep K H (o.getD v) ((valR ks ds k).getD z) := by
  obtain ⟨a', ea, o, h1, h2, h3⟩ := dgetR_of (x := .non) hk ry rx
  cases ea
  refine ⟨o, h1, ?_⟩
  cases e : valR ks ds k with
  | none => rw [h3 e]; exact rz
  | some d =>
    obtain ⟨w, rfl, r⟩ := h2 d e
    exact r
theorem qe_get1 (hu : X.A.units + 1 < cLine) (ho : QE X o to) (he : QE X e te) (hb : baseOk o = true) (hn : noStar e = true) (hl : (apos.endLine == cpos.line) = true) : QE X (.Call (.Attribute o "get" apos) [e] [] cpos) (dGet1 to te) := by
  refine ⟨fun ρ G Q xq σ H h rs s tk => ?_⟩
  refine PE.we (pe_dget1 hu pe_max pe_max (m1_of hb hn hl)) ((ho.run ρ G _ xq σ H h rs s tk).imp fun v H1 ⟨x, G1, rx, s1, e1, q1⟩ => ?_)
  dsimp only at q1
  split at q1
  · obtain ⟨a, rfl, hd⟩ := rd_at rx
    refine ⟨_, rfl, hd, (he.run ρ G1 _ xq σ H1 q1 (rs.mono e1.tup) s1 (tk.step e1)).imp fun u H2 ⟨y, G2, ry, s2, e2, k, hk, q2⟩ => ?_⟩
    obtain ⟨oo, h1, h2⟩ := dgoR_of (rx.mono e2.tup) hk ry Rep.non
    exact ⟨oo, h1, _, G2, h2, s2, e1.trans e2, q2⟩
  · unfold isDic at q1
    split at q1
    · cases rx
      obtain ⟨kvs, g, q⟩ := q1
      refine ⟨_, rfl, isD_of s1 g, (he.run ρ G1 _ xq σ H1 q (rs.mono e1.tup) s1 (tk.step e1)).imp fun u H2 ⟨y, G2, ry, s2, e2, kvs2, k, g2, hk, q2⟩ => ?_⟩
      obtain ⟨oo, h1, h2⟩ := dgo_of s2 g2 hk ry Rep.non
      exact ⟨oo, h1, _, G2, h2, s2, e1.trans e2, q2⟩
    · exact q1.elim
def dGet2 (to te tf : DE) : DE := fun ρ G Q xq => to ρ G (fun x G1 => match x with
  | .rd ks ds => te ρ G1 (fun y G2 => tf ρ G2 (fun z G3 => ∃ k, keyD y = some k ∧ Q ((valR ks ds k).getD z) G3) xq) xq
  | x => isDic x G1 fun a _ => te ρ G1 (fun y G2 => tf ρ G2 (fun z G3 => ∃ kvs k, G3 a = some (.dK kvs) ∧ keyD y = some k ∧ Q ((valD kvs k).getD z) G3) xq) xq) xq
theorem qe_get2 (hu : X.A.units + 1 < cLine) (ho : QE X o to) (he : QE X e te) (hf : QE X f tf) (hb : baseOk o = true) (hn : noStar e = true) (hn2 : noStar f = true) (hl : (apos.endLine == cpos.line) = true) : QE X (.Call (.Attribute o "get" apos) [e, f] [] cpos) (dGet2 to te tf) := by
  refine ⟨fun ρ G Q xq σ H h rs s tk => ?_⟩
  refine PE.we (pe_dget2 hu pe_max pe_max pe_max (m2_of hb hn hn2 hl)) ((ho.run ρ G _ xq σ H h rs s tk).imp fun v H1 ⟨x, G1, rx, s1, e1, q1⟩ => ?_)
  dsimp only at q1
  split at q1
  · obtain ⟨a, rfl, hd⟩ := rd_at rx
    refine ⟨_, rfl, hd, (he.run ρ G1 _ xq σ H1 q1 (rs.mono e1.tup) s1 (tk.step e1)).imp fun u H2 ⟨y, G2, ry, s2, e2, q2⟩ => ?_⟩
    have e12 := e1.trans e2
    refine (hf.run ρ G2 _ xq σ H2 q2 (rs.mono e12.tup) s2 (tk.step e12)).imp fun w H3 ⟨z, G3, rz, s3, e3, k, hk, q3⟩ => ?_
    obtain ⟨oo, h1, h2⟩ := dgoR_of ((rx.mono e2.tup).mono e3.tup) hk (ry.mono e3.tup) rz
    exact ⟨oo, h1, _, G3, h2, s3, e12.trans e3, q3⟩
  · unfold isDic at q1
    split at q1
    · cases rx
      obtain ⟨kvs, g, q⟩ := q1
      refine ⟨_, rfl, isD_of s1 g, (he.run ρ G1 _ xq σ H1 q (rs.mono e1.tup) s1 (tk.step e1)).imp fun u H2 ⟨y, G2, ry, s2, e2, q2⟩ => ?_⟩
      have e12 := e1.trans e2
      refine (hf.run ρ G2 _ xq σ H2 q2 (rs.mono e12.tup) s2 (tk.step e12)).imp fun w H3 ⟨z, G3, rz, s3, e3, kvs2, k, g2, hk, q3⟩ => ?_
      obtain ⟨oo, h1, h2⟩ := dgo_of s3 g2 hk (ry.mono e3.tup) rz
      exact ⟨oo, h1, _, G3, h2, s3, e12.trans e3, q3⟩
    · exact q1.elim
/-! dict(xs), xs a list of pairs -/
def pairsD (kvs : List (Key × D)) : List D := kvs.map fun kv => D.tup [keyV kv.1, kv.2]
def dofD (d : D) (G : Sto) (Q : DQ) : Prop := lstD d G fun ds => ∃ kvs : List (Key × D), ds = pairsD kvs ∧ ∀ p, G p = none → Q (.ref p) (put G p (.dK (mergeD [] kvs)))
theorem keyV_rep {K : PySem.W.Frag} {H : Hp} {v : V} {k : Key} (r : Rep K H v (keyV k)) : v = kV k := by
  cases k with
  | inl i => cases r; rfl
  | inr x => cases r; rfl
theorem pairs_of {K : PySem.W.Frag} {H : Hp} : ∀ {vs : List V} {kvs : List (Key × D)}, Reps K H vs (pairsD kvs) → ∃ (ps : List Addr) (m : List (Key × V)), vs = ps.map V.ref ∧ Paired (fun p kv => SqT K H p [kV kv.1, kv.2]) ps m ∧ RepKV K H m kvs
  | _, [], h => by
    cases h
    exact ⟨[], [], rfl, .nil, True.intro⟩
  | _, (k, d) :: r, h => by
    cases h with
    | cons a b =>
      obtain ⟨ps, m, rfl, h2, h3⟩ := pairs_of (kvs := r) b
      cases a with
      | @tup t us ds hs rr =>
        obtain ⟨v, u, rfl, rv, ru⟩ := rr.two
        rw [keyV_rep rv] at hs
        exact ⟨t :: ps, (k, u) :: m, rfl, .cons hs h2, rfl, ru, h3⟩
theorem dict_boot : bootBuiltins "dict" = some (.type "dict") := by decide +kernel
theorem qe_dof (hc : X.calm = true) (hg : Gl X "dict") (hm : X.mg "dict" = none) (he : QE X e te) (hn : noStar e = true) : QE X (.Call (.Name "dict" p) [e] [] pos) (dUn dofD te) := by
  refine ⟨fun ρ G Q xq σ H h rs s tk => ?_⟩
  refine PE.we (pe_callTy (T := "dict") (call_dictP hc) hg hm dict_boot (pa_cons pe_max pa_nil (starEach_cons hn)) (by decide) (by decide) (starEach_cons hn) rfl) ((he.run ρ G _ xq σ H h rs s tk).imp fun v H1 ⟨x, G1, rx, s1, e1, q1⟩ => ?_)
  have q1 : dofD x G1 Q := q1
  obtain ⟨a, vs, ds, rfl, hs, r1, kvs, rfl, q⟩ := lst_ q1 rx s1
  obtain ⟨ps, m, rfl, h2, h3⟩ := pairs_of r1
  refine ⟨a, ps, m, rfl, hs, h2, fun b hb => ?_⟩
  exact Lift.back e1 _ _ ⟨.ref b, put G1 b (.dK (mergeD [] kvs)), .ref b, s1.new hb ⟨_, upd_same, (h3.mono (tup_new hb)).merge True.intro⟩, .new hb, q b (s1.free hb)⟩
/-! reversed -/
theorem rev_get {α : Type} {xs : List α} {i : Nat} (h : i < xs.length) : xs.reverse[i]? = xs[xs.length - 1 - i]? := List.getElem?_reverse h
theorem it_rev {K : PySem.W.Frag} {H0 : Hp} {a : Addr} {n : Nat} {ds : List D} (hn : n = ds.length) : ItRep K H0 (Itv K a n) ds.reverse (keepL a ds) where
  go := fun i G H _ s k hi => by
    rw [List.length_reverse] at hi
    obtain ⟨vs, h, r⟩ := keepL_ k s
    obtain ⟨v, hv, _⟩ := r.get (List.getElem?_eq_getElem (show ds.length - 1 - i < ds.length by omega))
    exact ⟨by omega, vs, v, h, by rw [hn]; exact hv⟩
  stop := fun i G H _ s k hi => by
    rw [List.length_reverse] at hi
    exact (by omega : n ≤ i)
  yld := fun i G H x H' _ s k hi y => by
    rw [List.length_reverse] at hi
    obtain ⟨vs, h, r⟩ := keepL_ k s
    obtain ⟨rfl, hy⟩ := y
    obtain ⟨d, hd, rd⟩ := r.getV (hy vs h)
    exact ⟨d, by rw [rev_get hi, ← hn]; exact hd, rd, s, .refl⟩
theorem it_revT {K : PySem.W.Frag} {H0 : Hp} {a : Addr} {n : Nat} {vs : List V} {ds : List D} (hn : n = ds.length) (h0 : SqT K H0 a vs) (r : Reps K H0 vs ds) : ItRep K H0 (ItvT K a n) ds.reverse (fun _ => True) where
  go := fun i G H t s k hi => by
    rw [List.length_reverse] at hi
    obtain ⟨v, hv, _⟩ := r.get (List.getElem?_eq_getElem (show ds.length - 1 - i < ds.length by omega))
    exact ⟨by omega, vs, v, t.t _ _ h0, by rw [hn]; exact hv⟩
  stop := fun i G H t s k hi => by
    rw [List.length_reverse] at hi
    exact (by omega : n ≤ i)
  yld := fun i G H x H' t s k hi y => by
    rw [List.length_reverse] at hi
    obtain ⟨rfl, hy⟩ := y
    obtain ⟨d, hd, rd⟩ := r.getV (hy vs (t.t _ _ h0))
    exact ⟨d, by rw [rev_get hi, ← hn]; exact hd, rd.mono t, s, .refl⟩
theorem it_revV {K : PySem.W.Frag} {H0 : Hp} {a : Addr} {o : Obj} {n : Nat} {vs : List V} {ds : List D} (hn : n = ds.length) (h0 : H0 a = some (.frz o (.lst vs))) (r : Reps K H0 vs ds) : ItRep K H0 (Itv K a n) ds.reverse (fun _ => True) where
  go := fun i G H t s k hi => by
    rw [List.length_reverse] at hi
    obtain ⟨v, hv, _⟩ := r.get (List.getElem?_eq_getElem (show ds.length - 1 - i < ds.length by omega))
    exact ⟨by omega, vs, v, frz_sq (t.d _ _ _ h0), by rw [hn]; exact hv⟩
  stop := fun i G H t s k hi => by
    rw [List.length_reverse] at hi
    exact (by omega : n ≤ i)
  yld := fun i G H x H' t s k hi y => by
    rw [List.length_reverse] at hi
    obtain ⟨rfl, hy⟩ := y
    obtain ⟨d, hd, rd⟩ := r.getV (hy vs (frz_sq (t.d _ _ _ h0)))
    exact ⟨d, by rw [rev_get hi, ← hn]; exact hd, rd.mono t, s, .refl⟩
def revI (d : D) (G : Sto) (R : IQ) : Prop := match d with
  | .tup ds => R ds.reverse (fun _ => True) G
  | .ref a => ∃ ds, G a = some (.lst ds) ∧ R ds.reverse (keepL a ds) G
  | .rl ds => R ds.reverse (fun _ => True) G
  | _ => False
def dIRev (t : DE) : DI := fun ρ G R xq => t ρ G (fun d G1 => revI d G1 R) xq
theorem qi_rev {tg : Expr} (hg : Gl X "reversed") (hm : X.mg "reversed" = none) (he : QE X e te) (hn : noStar e = true) : QI X tg (.Call (.Name "reversed" p) [e] [] pos) (dIRev te) := by
  refine ⟨fun ρ G R xq σ H h rs s tk => ?_⟩
  refine PI.wi (pi_revA hg hm pe_max (starEach_cons hn)) ((he.run ρ G _ xq σ H h rs s tk).imp fun v H1 ⟨x, G1, rx, s1, e1, q1⟩ => ?_)
  have q1 : revI x G1 R := q1
  unfold revI at q1
  split at q1
  · cases rx with
    | tup h1 r1 => exact ⟨_, _, rfl, .inr ⟨h1, _, _, G1, it_revT r1.length h1 r1, s1, e1, q1⟩⟩
  · cases rx
    obtain ⟨ds, hg, q⟩ := q1
    obtain ⟨vs, h1, r1⟩ := keepL_ hg s1
    exact ⟨_, _, rfl, .inl ⟨h1, _, _, G1, it_rev r1.length, s1, e1, q⟩⟩
  · cases rx with
    | rl h1 r1 => exact ⟨_, _, rfl, .inl ⟨frz_sq h1, _, _, G1, it_revV r1.length h1 r1, s1, e1, q1⟩⟩
  · exact q1.elim
end
end DL

namespace DL
open PySem PySem.Spec PyProof.Rows L2
section
variable {X : Cx} {e : Expr} {te : DE} {p pos : Pos}
/-! repr of a tuple or a list, where nothing is being shown -/
def repD (d : D) (G : Sto) (Q : DQ) : Prop := match d with
  | .tup ds => ∃ q, Dd G (.tup ds) q ∧ q.showable = true ∧ q.hasDict = false ∧ q.depth ≤ 60 ∧ q.shown.length ≤ sizeLine ∧ Q (.str q.shown) G
  | .rl ds => ∃ q, Dd G (.rl ds) q ∧ q.showable = true ∧ q.hasDict = false ∧ q.depth ≤ 60 ∧ q.shown.length ≤ sizeLine ∧ Q (.str q.shown) G
  | _ => False
theorem call_repr_at (hgd : X.A.guards = some []) (hu : X.A.units + 64 < cLine) : CallR X (.builtin "repr") (fun xs H Q => ∃ a d, xs = [.ref a] ∧ Dp X.K H (.ref a) d ∧ d.showable = true ∧ d.hasDict = false ∧ d.depth ≤ 60 ∧ d.shown.length ≤ sizeLine ∧ Q (.str d.shown) H) := by
  rintro pins s σ H xs us Q I rv ⟨a, d, rfl, hd, h1, h2, h3, h4, q⟩
  cases rv with
  | cons r1 r2 =>
    cases r2
    obtain ⟨as, r⟩ := Dp.reads I d _ _ hd r1
    obtain rfl := r1
    exact repr_of_reads' r h1 (PyData.noDict_hsm h2) hgd (by omega) (fun b o z => z) (fun h' u tk hk => ⟨.str d.shown, H, I.un (Un.kept hk) (I.hok.kept hk), ⟨u, rfl⟩, q⟩) h4
theorem repr_boot : bootBuiltins "repr" = some (.builtin "repr") := by decide +kernel
theorem qe_rep (hgd : X.A.guards = some []) (hu : X.A.units + 64 < cLine) (hg : Gl X "repr") (hm : X.mg "repr" = none) (he : QE X e te) (hn : noStar e = true) : QE X (.Call (.Name "repr" p) [e] [] pos) (dUn repD te) := by
  refine ⟨fun ρ G Q xq σ H h rs s tk => ?_⟩
  refine PE.we (pe_callB (id := "repr") (call_repr_at hgd hu) hg hm repr_boot (pa_cons pe_max pa_nil (starEach_cons hn)) (by decide) (by decide) (starEach_cons hn) rfl) ((he.run ρ G _ xq σ H h rs s tk).imp fun v H1 ⟨x, G1, rx, s1, e1, q1⟩ => ?_)
  have q1 : repD x G1 Q := q1
  unfold repD at q1
  split at q1
  · obtain ⟨d, hd, h1, h2, h3, h4, q⟩ := q1
    have hp := hd.dp s1 rx
    cases rx with
    | tup a b => exact ⟨_, d, rfl, hp, h1, h2, h3, h4, Lift.back e1 _ _ (Lift.here (.str _) s1 q)⟩
  · obtain ⟨d, hd, h1, h2, h3, h4, q⟩ := q1
    have hp := hd.dp s1 rx
    cases rx with
    | rl a b => exact ⟨_, d, rfl, hp, h1, h2, h3, h4, Lift.back e1 _ _ (Lift.here (.str _) s1 q)⟩
  · exact q1.elim
end
end DL

/-! dict(zip(a, b)) of two tuples: the zip is drawn while its pair before is still held -/
namespace PySem
open Sem (wp)
open RZ
section
variable {prog : Program} {w : World} {A : Around} {E : Value → Shared → Prop} {s : Shared}
theorem zipTH_item {z TI TO T i1 i2 l1 l2 : Addr} {f : Bool} {oT : Obj} {k1 k2 : Nat} {xs ys : Array Value} {x y : Value} {Q : Value → Shared → Prop} (D : ZipApart z TI TO i1 i2 l1 l2)
    (hz : IsZipHeld s.heap z TI TO T f) (hT : s.heap.get? T = some oT) (hTI : IsPair s.heap TI (.ref i1) (.ref i2))
    (h1 : s.heap.IsTupleIter i1 l1 k1) (h2 : s.heap.IsTupleIter i2 l2 k2) (hl1 : s.heap.IsTuple l1 xs) (hl2 : s.heap.IsTuple l2 ys) (hx : xs[k1]? = some x) (hy : ys[k2]? = some y)
    (hQ : ∀ h', IsZipHeld h' z TI TO T true → h'.IsTupleIter i1 l1 (k1 + 1) → h'.IsTupleIter i2 l2 (k2 + 1) → IsPair h' s.heap.objs.size x y →
      (∀ c o, c ≠ z → c ≠ i1 → c ≠ i2 → s.heap.get? c = some o → h'.get? c = some o) → Q (.ref s.heap.objs.size) { s with heap := h' }) :
    wpAny (model prog w) A (Builtin.«zip.__next__» ⟨[.ref z], []⟩) (fun fin s' => ∃ v, fin = .done (.ret v) ∧ Q v s') E s := by
  show wpAny _ _ (field (.ref z) 2 >>= _) _ _ _
  refine wpAny_bind (wpAny_field hz rfl (x := .bool false) rfl ?_)
  show wpAny _ _ (field (.ref z) 3 >>= _) _ _ _
  refine wpAny_bind (wpAny_field hz rfl (x := .ref TI) rfl (wpAny_bind (wpAny_seqItems hTI rfl ?_)))
  show wpAny _ _ (Builtin.SmallTypes.ownedTupleIsFree (.ref z) >>= _) _ _ _
  refine wpAny_bind (wpAny_tupleHeld_zip hz hT fun g1 hz1 hs1 => ?_)
  simp only [Bool.false_eq_true, if_false]
  refine wpAny_bind ?_
  rw [← Array.forIn_toList]
  simp only [List.forIn_cons, List.forIn_nil]
  refine wpAny_bind (wpAny_bind (wpAny_holding ?_))
  show wpAny _ _ (Builtin.SmallTypes.nextOf (.ref i1) >>= _) _ _ _
  refine wpAny_bind (nextOf_tuple_item (s := { s with heap := g1 }) (h1.extBut hs1.extBut D.i1z) (hl1.extBut hs1.extBut D.l1z) hx fun g2 j1 hs2 => wpAny_pure (wpAny_pure ?_))
  refine wpAny_bind (wpAny_bind (wpAny_holding ?_))
  show wpAny _ _ (Builtin.SmallTypes.nextOf (.ref i2) >>= _) _ _ _
  refine wpAny_bind (nextOf_tuple_item (s := { s with heap := g2 }) ((h2.extBut hs1.extBut D.i2z).extBut hs2.extBut D.i12.symm) ((hl2.extBut hs1.extBut D.l2z).extBut hs2.extBut D.l2i1) hy fun g3 j2 hs3 => wpAny_pure (wpAny_pure (wpAny_pure ?_)))
  show wpAny _ _ (newTuple [x, y] >>= _) _ _ _
  refine wpAny_bind (wpAny_newTuple (wpAny_pure ⟨_, rfl, ?_⟩))
  have hsz : g3.objs.size = s.heap.objs.size := by rw [hs3.1, hs2.1, hs1.1]
  have hp : IsPair (g3.push { cls := .type "tuple", data := .seq #[x, y] }) g3.objs.size x y := Heap.get?_push_size _ rfl
  show Q (.ref g3.objs.size) _
  rw [hsz] at hp ⊢
  exact hQ _ (Heap.get?_push_of_some _ (hs3.extBut _ _ D.i2z.symm (hs2.extBut _ _ D.i1z.symm hz1))) ((j1.extBut hs3.extBut D.i12).at fun o e => Heap.get?_push_of_some _ e) (j2.at fun o e => Heap.get?_push_of_some _ e) hp
    fun c o c1 c2 c3 e => Heap.get?_push_of_some _ (hs3.extBut _ _ c3 (hs2.extBut _ _ c2 (hs1.extBut _ _ c1 e)))
theorem zipTH_end {z TI TO T i1 i2 l1 l2 : Addr} {f : Bool} {oT : Obj} {k1 : Nat} {xs : Array Value} {Q : Fin → Shared → Prop} (hh : A.handled = none) (D : ZipApart z TI TO i1 i2 l1 l2)
    (hz : IsZipHeld s.heap z TI TO T f) (hT : s.heap.get? T = some oT) (hTI : IsPair s.heap TI (.ref i1) (.ref i2))
    (h1 : s.heap.IsTupleIter i1 l1 k1) (hl1 : s.heap.IsTuple l1 xs) (hx : xs[k1]? = none)
    (hE : ∀ h' e, (∀ c o, c ≠ z → c ≠ i1 → s.heap.get? c = some o → h'.get? c = some o) → (∃ o, h'.get? e = some o ∧ o.cls = .type "StopIteration") → E (.ref e) { s with heap := h' }) :
    wpAny (model prog w) A (Builtin.«zip.__next__» ⟨[.ref z], []⟩) Q E s := by
  show wpAny _ _ (field (.ref z) 2 >>= _) _ _ _
  refine wpAny_bind (wpAny_field hz rfl (x := .bool false) rfl ?_)
  show wpAny _ _ (field (.ref z) 3 >>= _) _ _ _
  refine wpAny_bind (wpAny_field hz rfl (x := .ref TI) rfl (wpAny_bind (wpAny_seqItems hTI rfl ?_)))
  show wpAny _ _ (Builtin.SmallTypes.ownedTupleIsFree (.ref z) >>= _) _ _ _
  refine wpAny_bind (wpAny_tupleHeld_zip hz hT fun g1 hz1 hs1 => ?_)
  simp only [Bool.false_eq_true, if_false]
  refine wpAny_bind ?_
  rw [← Array.forIn_toList]
  simp only [List.forIn_cons, List.forIn_nil]
  refine wpAny_bind (wpAny_bind (wpAny_holding ?_))
  show wpAny _ _ (Builtin.SmallTypes.nextOf (.ref i1) >>= _) _ _ _
  refine wpAny_bind (nextOf_tuple_end (s := { s with heap := g1 }) hh (h1.extBut hs1.extBut D.i1z) (hl1.extBut hs1.extBut D.l1z) hx fun g2 e hs2 he => ?_)
  exact hE g2 e (fun c o c1 c2 x => hs2 _ _ c2 (hs1.extBut _ _ c1 x)) he
/-- zip(t, u), two tuples of one length, as what a dict is made of -/
theorem pairArg_zipT (z TI TO i1 i2 l1 l2 : Addr) (D : ZipApart z TI TO i1 i2 l1 l2) (xs ys : Array Value) (hxy : xs.size = ys.size) :
    PairArg prog w "zip" z [z, TI, TO, i1, i2, l1, l2] [z, TO, i1, i2] xs.size (fun i k v => xs[i]? = some k ∧ ys[i]? = some v)
      (fun h => IsZip h z TI TO .none ∧ IsPair h TI (.ref i1) (.ref i2) ∧ (∃ a b, IsPair h TO a b) ∧ h.IsTupleIter i1 l1 0 ∧ h.IsTupleIter i2 l2 0 ∧ h.IsTuple l1 xs ∧ h.IsTuple l2 ys) where
  type := fun s ok => ⟨_, ok.1, rfl⟩
  notDict := by decide
  keep := fun h h' ok hk => by
    obtain ⟨hz, hTI, ⟨a, b, hTO⟩, h1, h2, hl1, hl2⟩ := ok
    exact ⟨hk _ _ hz, hk _ _ hTI, ⟨a, b, hk _ _ hTO⟩, h1.at fun o e => hk _ o e, h2.at fun o e => hk _ o e, hl1.at fun o e => hk _ o e, hl2.at fun o e => hk _ o e⟩
  there := fun h ok b hb => by
    obtain ⟨hz, hTI, ⟨a, c, hTO⟩, ⟨o1, h1, _⟩, ⟨o2, h2, _⟩, ⟨o3, hl1, _⟩, ⟨o4, hl2, _⟩⟩ := ok
    simp only [List.mem_cons, List.not_mem_nil, or_false] at hb
    rcases hb with rfl | rfl | rfl | rfl | rfl | rfl | rfl
    all_goals first | exact ⟨_, hz⟩ | exact ⟨_, hTI⟩ | exact ⟨_, hTO⟩ | exact ⟨_, h1⟩ | exact ⟨_, h2⟩ | exact ⟨_, hl1⟩ | exact ⟨_, hl2⟩
  sub := fun b hb => by
    simp at hb ⊢
    rcases hb with rfl | rfl | rfl | rfl <;> simp
  noKeys := fun A s Q E hA ok h => getAttrOr_miss_zip ok.1 rfl rfl rfl zip_no_keys (by decide +kernel) hA h
  iter := fun A s d Q E hA ok hd hdf h => by
    obtain ⟨hz, hTI, ⟨a, b, hTO⟩, h1, h2, hl1, hl2⟩ := ok
    simp only [List.mem_cons, List.not_mem_nil, or_false, not_or] at hdf
    obtain ⟨dz, dTI, dTO, di1, di2, dl1, dl2⟩ := hdf
    refine wpAny_pyIter_zip hz (h z [z, TO, i1, i2] (fun i h => IsPair h TI (.ref i1) (.ref i2) ∧ h.IsTupleIter i1 l1 i ∧ h.IsTupleIter i2 l2 i ∧ h.IsTuple l1 xs ∧ h.IsTuple l2 ys ∧
      ((IsZip h z TI TO .none ∧ ∃ a b, IsPair h TO a b) ∨ ∃ T f oT, IsZipHeld h z TI TO T f ∧ h.get? T = some oT ∧ T ≠ z ∧ T ≠ i1 ∧ T ≠ i2 ∧ T ≠ d)) s.heap s.toks ?_
      ⟨hTI, h1, h2, hl1, hl2, .inl ⟨hz, a, b, hTO⟩⟩ (fun _ _ e => e) fun b hb => .inl hb)
    exact {
      off := fun hm => by
        simp only [List.mem_cons, List.not_mem_nil, or_false] at hm
        rcases hm with e | e | e | e
        · exact dz e
        · exact dTO e
        · exact di1 e
        · exact di2 e
      frame := fun i g g' st hk => by
        obtain ⟨hTI, h1, h2, hl1, hl2, hz⟩ := st
        refine ⟨hk _ _ (Ne.symm dTI) hTI, h1.at fun o e => hk _ o (Ne.symm di1) e, h2.at fun o e => hk _ o (Ne.symm di2) e, hl1.at fun o e => hk _ o (Ne.symm dl1) e, hl2.at fun o e => hk _ o (Ne.symm dl2) e, ?_⟩
        rcases hz with ⟨hz, a, b, hTO⟩ | ⟨T, f, oT, hz, hT, r1, r2, r3, r4⟩
        · exact .inl ⟨hk _ _ (Ne.symm dz) hz, a, b, hk _ _ (Ne.symm dTO) hTO⟩
        · exact .inr ⟨T, f, oT, hk _ _ (Ne.symm dz) hz, hk _ _ r4 hT, r1, r2, r3, r4⟩
      item := fun i t Q1 E1 hi st hds hQ => by
        obtain ⟨hTI, h1, h2, hl1, hl2, hz⟩ := st
        have ex := Array.getElem?_eq_getElem hi
        have ey := Array.getElem?_eq_getElem (show i < ys.size by omega)
        have lt : ∀ {c o}, t.heap.get? c = some o → t.heap.objs.size ≠ c := fun e => Nat.ne_of_gt (Heap.lt_size e)
        have n1 : t.heap.objs.size ≠ i1 := let ⟨_, e, _⟩ := h1; lt e
        have n2 : t.heap.objs.size ≠ i2 := let ⟨_, e, _⟩ := h2; lt e
        rcases hz with ⟨hz, a, b, hTO⟩ | ⟨T, f, oT, hz, hT, r1, r2, r3, r4⟩
        · refine pyNext_zipT_item D hz hTI hTO h1 h2 hl1 hl2 ex ey fun h' a1 a2 a3 a4 a5 a6 hk => ?_
          exact hQ t.heap.objs.size _ _ h' t.toks ⟨ex, ey⟩ (.inl ⟨_, a5, rfl, _, rfl⟩)
            ⟨hk _ _ D.TIz D.TITO D.TIi1 D.TIi2 hTI, a3, a4, hl1.at fun o e => hk _ o D.l1z D.l1TO D.l1i1 D.l1i2 e, hl2.at fun o e => hk _ o D.l2z D.l2TO D.l2i1 D.l2i2 e,
              .inr ⟨t.heap.objs.size, false, _, a1, a5, lt hz, n1, n2, Nat.ne_of_gt hds⟩⟩
            fun c o hc e => hk c o (fun x => hc (by simp [x])) (fun x => hc (by simp [x])) (fun x => hc (by simp [x])) (fun x => hc (by simp [x])) e
        · have hTy : t.TypeIs (.ref z) "zip" := ⟨_, hz, rfl⟩
          unfold pyNext
          refine wpAny_bind (wpAny_attempt (wpAny_callSpecial?_slot (name := Str.ofString "__next__") hTy F.slot_zip_next
            (wpAny_call_entry F.slot_zip_next hTy F.entry_zip_next (zipTH_item D hz hT hTI h1 h2 hl1 hl2 ex ey fun h' a1 a3 a4 a5 hk => wpAny_pure ?_) (F.args_zip_next_1 _))))
          exact hQ t.heap.objs.size _ _ h' t.toks ⟨ex, ey⟩ (.inl ⟨_, a5, rfl, _, rfl⟩)
            ⟨hk _ _ D.TIz D.TIi1 D.TIi2 hTI, a3, a4, hl1.at fun o e => hk _ o D.l1z D.l1i1 D.l1i2 e, hl2.at fun o e => hk _ o D.l2z D.l2i1 D.l2i2 e,
              .inr ⟨T, true, oT, a1, hk _ _ r1 r2 r3 hT, r1, r2, r3, r4⟩⟩
            fun c o hc e => hk c o (fun x => hc (by simp [x])) (fun x => hc (by simp [x])) (fun x => hc (by simp [x])) e
      done := fun t Q1 E1 st hQ => by
        obtain ⟨hTI, h1, h2, hl1, hl2, hz⟩ := st
        have hx : xs[xs.size]? = none := Array.getElem?_eq_none (Nat.le_refl _)
        rcases hz with ⟨hz, a, b, hTO⟩ | ⟨T, f, oT, hz, hT, r1, r2, r3, r4⟩
        · exact pyNext_zipT_end hA D hz hTI hTO h1 h2 hl1 hl2 (.inl hx) fun h' hk => hQ h' t.toks fun c o hc e => hk c o (fun x => hc (by simp [x])) (fun x => hc (by simp [x])) (fun x => hc (by simp [x])) (fun x => hc (by simp [x])) e
        · have hTy : t.TypeIs (.ref z) "zip" := ⟨_, hz, rfl⟩
          unfold pyNext
          refine wpAny_bind (wpAny_attempt (wpAny_callSpecial?_slot (name := Str.ofString "__next__") hTy F.slot_zip_next
            (wpAny_call_entry F.slot_zip_next hTy F.entry_zip_next (zipTH_end hA D hz hT hTI h1 hl1 hx fun h' e hk he => ?_) (F.args_zip_next_1 _))))
          obtain ⟨o, ho, hc⟩ := he
          refine wpAny_bind (wpAny_isInstance (T := "StopIteration") (b := true) ⟨o, ho, hc⟩ isSubtype_stop (wpAny_pure ?_))
          exact hQ h' t.toks fun c o hc e => hk c o (fun x => hc (by simp [x])) (fun x => hc (by simp [x])) e }
end
end PySem

namespace DL
open PySem PySem.Spec PyProof.Rows L2
theorem kV_is {k : Key} {u : Value} (h : RelV (kV k) u) : keyIs k u = true := by
  cases k with
  | inl i =>
    obtain ⟨t, rfl⟩ := h
    exact keyIs_int i t
  | inr x =>
    obtain ⟨t, rfl⟩ := h
    exact keyIs_str x t
theorem zip_have : ∀ {kvs : List (Key × V)} {us ws : List Value}, Vals (kvs.map fun kv => kV kv.1) us → Vals (kvs.map (·.2)) ws →
    ∃ prs : List (Key × Value), KV kvs prs ∧ prs.length = us.length ∧ us.length = ws.length ∧ ∀ (i : Nat) (key v : Value), us[i]? = some key → ws[i]? = some v → ∃ k, prs[i]? = some (k, v) ∧ keyIs k key = true
  | [], us, ws, h1, h2 => by
    cases h1
    cases h2
    exact ⟨[], .nil, rfl, rfl, fun i key v e => by simp at e⟩
  | kv :: kvs, us, ws, h1, h2 => by
    cases h1 with
    | cons a1 b1 =>
      cases h2 with
      | cons a2 b2 =>
        rename_i u us w ws
        obtain ⟨prs, r1, r2, r3, r4⟩ := zip_have b1 b2
        refine ⟨(kv.1, w) :: prs, .cons ⟨rfl, a2⟩ r1, by simp [r2], by simp [r3], fun i key v e1 e2 => ?_⟩
        cases i with
        | zero =>
          have e1 : u = key := Option.some.inj e1
          have e2 : w = v := Option.some.inj e2
          subst e1 e2
          exact ⟨kv.1, rfl, kV_is a1⟩
        | succ i => exact r4 i key v (by simpa using e1) (by simpa using e2)
section
variable {X : Cx} {e e1 e2 : Expr} {te1 te2 : DE} {p p2 pos pos2 : Pos}
def rDzip (K : PySem.W.Frag) (vs : List V) (H : Hp) (Q : VK) : Prop := ∃ (a b : Addr) (kvs : List (Key × V)), vs = [.ref a, .ref b] ∧ SqT K H a (kvs.map fun kv => kV kv.1) ∧ SqT K H b (kvs.map (·.2)) ∧ kvs.length ≤ 1000 ∧ ∀ q, H q = none → Q (.ref q) (upd H q (.dK (mergeK [] kvs)))
theorem pe_dzip {t : TA} (hc : X.calm = true) (hg : Gl X "dict") (hm : X.mg "dict" = none) (hg2 : Gl X "zip") (hm2 : X.mg "zip" = none) (ha : PA X [e1, e2] t) (hn1 : noStar e1 = true) (hn2 : noStar e2 = true) :
    PE X (.Call (.Name "dict" p) [.Call (.Name "zip" p2) [e1, e2] [] pos2] [] pos) (fun σ H Q => t σ H fun vs H1 => rDzip X.K vs H1 Q) := by
  refine ⟨fun pins s σ H Q I h => ?_⟩
  have na2 : starEach [.Call (.Name "zip" p2) [e1, e2] [] pos2] X.env = (false, eval (.Call (.Name "zip" p2) [e1, e2] [] pos2) X.env) :: starEach [] X.env := starEach_cons rfl
  refine wpAny_Call_Name_kw (ld_blt I hg hm dict_boot ?_ (by decide) (by decide))
  refine PyProof.Rows.callWith_type1 (args_cons ?_ na2) na2 rfl
  refine Call_ (ld_blt I hg2 hm2 PyProof.Rows.boot_zip (PyProof.Rows.callWith_type1 (thn (ha.run pos2 pins s σ H _ I h) fun us s1 ⟨vs, H1, I1, r1, a, b, kvs, ev, ta, tb, hl, q⟩ => ?_) (starEach_cons hn1) (by rw [starEach_cons hn2]; rfl)))
  subst ev
  obtain ⟨u, y, eu, ru, ry⟩ := vals2 r1
  subst eu
  obtain rfl : u = Value.ref a := ru
  obtain rfl : y = Value.ref b := ry
  obtain ⟨i1, v1, p1, z1⟩ := I1.tuple ta
  obtain ⟨i2, v2, p2', z2⟩ := I1.tuple tb
  obtain ⟨prs, r2, r3, r4, r5⟩ := zip_have v1 v2
  have hl1 : s1.heap.IsTuple a i1.toArray := p1
  have hl2 : s1.heap.IsTuple b i2.toArray := p2'
  have la : a < s1.heap.objs.size := by obtain ⟨o, ho, _⟩ := hl1; exact Heap.lt_size ho
  have lb : b < s1.heap.objs.size := by obtain ⟨o, ho, _⟩ := hl2; exact Heap.lt_size ho
  refine RZ.call_zipT hl1 hl2 fun h' c1 c2 c3 c4 c5 c6 c7 => args_nil ?_
  have hsz : i1.toArray.size = prs.length := by simp [r3]
  have hn : prs.length ≤ 1000 := by rw [r3, ← v1.length, List.length_map]; exact hl
  refine PySem.call_dict_pairs (knd := mixKind X.prog X.w) (kvs := prs) (s := { s1 with heap := h' }) (pairArg_zipT _ _ _ _ _ a b (zipApart_new la lb) i1.toArray i2.toArray (by simp [r4])) (I1.ok.hd hc)
    ⟨c1, c2, ⟨_, _, c3⟩, c4, c5, hl1.at fun o e => c7 _ _ e, hl2.at fun o e => c7 _ _ e⟩ ⟨hsz.symm, fun i key v ⟨e1, e2⟩ => r5 i key v (by simpa using e1) (by simpa using e2)⟩ (by rw [hsz]; exact Nat.le_trans hn (by decide)) fun h2 tk hd hk => ?_
  have keep : ∀ b o, s1.heap.get? b = some o → h2.get? b = some o := fun b o e => hk b o (fun z => by
    have lt : b < s1.heap.objs.size := Heap.lt_size e
    simp only [List.mem_cons, List.not_mem_nil, or_false] at z
    rcases z with z | z | z | z
    · rw [z] at lt
      exact absurd lt (Nat.not_lt.mpr (Nat.le_add_right _ _))
    · rw [z] at lt
      exact absurd lt (Nat.not_lt.mpr (Nat.le_add_right _ _))
    · rw [z] at lt
      exact absurd lt (Nat.lt_irrefl _)
    · rw [z] at lt
      exact absurd lt (Nat.not_lt.mpr (Nat.le_add_right _ _))) (c7 b o e)
  have hle : s1.heap.objs.size ≤ h'.objs.size := by omega
  have hlen : (mergeK [] kvs).length ≤ sizeLine := by
    refine Nat.le_trans (length_mergeK kvs []) ?_
    rw [List.length_nil, Nat.zero_add]
    exact Nat.le_trans hl (by decide)
  have hm' : (h'.objs.size == sysModules) = false := beq_eq_false_iff_ne.mpr (Nat.ne_of_gt (Nat.lt_of_lt_of_le I1.big hle))
  exact ⟨.ref h'.objs.size, upd H1 h'.objs.size (.dK (mergeK [] kvs)), I1.laid (t' := tk) keep hle (show ObjOk X.prog X.w _ _ _ (.dK (mergeK [] kvs)) from ⟨hlen, hm', merged [] prs, KV.merge r2 .nil, hd⟩), rfl, q _ (I1.hok.fresh hle)⟩
/-- dict(zip(t, u)) -/
def dzipD (x y : D) (G : Sto) (Q : DQ) : Prop := match x, y with
  | .tup xs, .tup ys => ∃ kvs : List (Key × D), xs = kvs.map (fun kv => keyV kv.1) ∧ ys = kvs.map (·.2) ∧ kvs.length ≤ 1000 ∧ ∀ q, G q = none → Q (.ref q) (put G q (.dK (mergeD [] kvs)))
  | _, _ => False
def dDzip (a b : DE) : DE := fun ρ G Q xq => a ρ G (fun x G1 => b ρ G1 (fun y G2 => dzipD x y G2 Q) xq) xq
theorem keys_rep {K : PySem.W.Frag} {H : Hp} : ∀ {kvs : List (Key × D)} {us vs : List V}, Reps K H us (kvs.map fun kv => keyV kv.1) → Reps K H vs (kvs.map (·.2)) → ∃ m : List (Key × V), us = m.map (fun kv => kV kv.1) ∧ vs = m.map (·.2) ∧ RepKV K H m kvs
  | [], us, vs, h1, h2 => by
    cases h1
    cases h2
    exact ⟨[], rfl, rfl, True.intro⟩
  | kv :: kvs, us, vs, h1, h2 => by
    cases h1 with
    | cons a1 b1 =>
      cases h2 with
      | cons a2 b2 =>
        obtain ⟨m, e1, e2, r⟩ := keys_rep b1 b2
        rw [keyV_rep a1, e1, e2]
        exact ⟨(kv.1, _) :: m, rfl, rfl, rfl, a2, r⟩
theorem qe_dzip (hc : X.calm = true) (hg : Gl X "dict") (hm : X.mg "dict" = none) (hg2 : Gl X "zip") (hm2 : X.mg "zip" = none) (h1 : QE X e1 te1) (h2 : QE X e2 te2) (hn1 : noStar e1 = true) (hn2 : noStar e2 = true) :
    QE X (.Call (.Name "dict" p) [.Call (.Name "zip" p2) [e1, e2] [] pos2] [] pos) (dDzip te1 te2) := by
  refine ⟨fun ρ G Q xq σ H h rs s tk => ?_⟩
  refine PE.we (pe_dzip hc hg hm hg2 hm2 (pa_cons pe_max (pa_cons pe_max pa_nil (starEach_cons hn2)) (starEach_cons hn1)) hn1 hn2) ((h1.run ρ G _ xq σ H h rs s tk).imp fun v H1 ⟨x, G1, rx, s1, x1, q1⟩ => ?_)
  refine (h2.run ρ G1 _ xq σ H1 q1 (rs.mono x1.tup) s1 (tk.step x1)).imp fun u H2 ⟨y, G2, ry, s2, x2, q2⟩ => ?_
  have rx2 := rx.mono x2.tup
  have q2 : dzipD x y G2 Q := q2
  unfold dzipD at q2
  split at q2
  · obtain ⟨kvs, ex, ey, hl, q⟩ := q2
    subst ex ey
    cases rx2 with
    | tup ta ra =>
      cases ry with
      | tup tb rb =>
        obtain ⟨m, e1, e2, r⟩ := keys_rep ra rb
        rw [e1] at ta
        rw [e2] at tb
        refine ⟨_, _, m, rfl, ta, tb, by rw [r.length]; exact hl, fun b hb => ?_⟩
        exact Lift.back (x1.trans x2) _ _ ⟨.ref b, put G2 b (.dK (mergeD [] kvs)), .ref b, s2.new hb ⟨_, upd_same, (r.mono (tup_new hb)).merge True.intro⟩, .new hb, q b (s2.free hb)⟩
  · exact q2.elim
end
end DL

namespace DL
open PySem PySem.Spec PyProof.Rows L2
/-! own classes: fields, methods, making -/
section
variable {X : Cx} {C : Addr} {o e : Expr} {es : List Expr} {to te : DE} {tas : DA} {f m x : Str} {p pos apos cpos : Pos} {sp : DSp}
theorem kv_lookup {K : PySem.W.Frag} {H : Hp} {f : Str} {d : D} : ∀ {l : List (Str × V)} {fs : List (Str × D)}, RepKV K H l fs → fs.lookup f = some d → ∃ v, l.lookup f = some v ∧ Rep K H v d
  | [], [], _, h => by simp at h
  | (k, v) :: l, (j, z) :: fs, ⟨e, r, rr⟩, h => by
    subst e
    rw [List.lookup_cons] at h ⊢
    split at h
    · rename_i hh
      cases h
      exact ⟨v, rfl, r⟩
    · rename_i hh
      obtain ⟨w, h1, h2⟩ := kv_lookup rr h
      exact ⟨w, h1, h2⟩
  | [], _ :: _, h, _ => h.elim
  | _ :: _, [], h, _ => h.elim
theorem kv_none {K : PySem.W.Frag} {H : Hp} {f : Str} : ∀ {l : List (Str × V)} {fs : List (Str × D)}, RepKV K H l fs → fs.lookup f = none → l.lookup f = none
  | [], [], _, h => rfl
  | (k, v) :: l, (j, z) :: fs, ⟨e, r, rr⟩, h => by
    subst e
    rw [List.lookup_cons] at h ⊢
    split at h
    · cases h
    · exact kv_none rr h
  | [], _ :: _, h, _ => h.elim
  | _ :: _, [], h, _ => h.elim
def putFD (f : Str) (v : D) : List (Str × D) → List (Str × D)
  | [] => [(f, v)]
  | (g, x) :: r => if g = f then (g, v) :: r else (g, x) :: putFD f v r
theorem kv_put {K : PySem.W.Frag} {H : Hp} {f : Str} {v : V} {d : D} (r0 : Rep K H v d) : ∀ {l : List (Str × V)} {fs : List (Str × D)}, RepKV K H l fs → RepKV K H (putF f v l) (putFD f d fs)
  | [], [], _ => ⟨rfl, r0, True.intro⟩
  | (k, w) :: l, (j, z) :: fs, ⟨e, r, rr⟩ => by
    subst e
    unfold putF putFD
    by_cases h : k = f
    · rw [if_pos h, if_pos h]
      exact ⟨rfl, r0, rr⟩
    · rw [if_neg h, if_neg h]
      exact ⟨rfl, r, kv_put r0 rr⟩
  | [], _ :: _, h => h.elim
  | _ :: _, [], h => h.elim
theorem ins_at {K : PySem.W.Frag} {G : Sto} {H : Hp} (s : Sim K G H) {a dx : Addr} {fs : List (Str × D)} (g : G a = some (.ins C dx fs)) : ∃ l, H a = some (.ins C dx l) ∧ RepKV K H l fs := s a _ g
/-- o.f -/
def fldD (C : Addr) (f : Str) (d : D) (G : Sto) (Q : DQ) : Prop := ∃ a dx fs v, d = .ref a ∧ G a = some (.ins C dx fs) ∧ fs.lookup f = some v ∧ Q v G
theorem qe_fld (c : Cls X.K C) (n : NoAttr X.K C f) (ho : QE X o to) (hb : baseOk o = true) : QE X (.Attribute o f pos) (dUn (fldD C f) to) := by
  refine ⟨fun ρ G Q xq σ H h rs s tk => ?_⟩
  refine PE.we (pe_fld pe_max (base_ok hb)) ((ho.run ρ G _ xq σ H h rs s tk).imp fun v H1 ⟨d, G1, rd, s1, e1, q1⟩ => ?_)
  obtain ⟨a, dx, fs, w, ed, g, l, q⟩ := (show fldD C f d G1 Q from q1)
  subst ed
  cases rd
  obtain ⟨m, hm, rm⟩ := ins_at s1 g
  obtain ⟨u, hu, ru⟩ := kv_lookup rm l
  exact ⟨a, C, dx, m, u, rfl, hm, c, n, hu, Lift.back e1 _ _ (Lift.here ru s1 q)⟩
/-- o.f = e -/
def sFldD (C : Addr) (f : Str) (te to : DE) : DS := fun D ρ G => te ρ G (fun y G1 => to ρ G1 (fun d G2 => ∃ a dx fs, d = .ref a ∧ G2 a = some (.ins C dx fs) ∧ fs.length < 1000 ∧ D.nx ρ (put G2 a (.ins C dx (putFD f y fs)))) fun z => D.ex z ρ) fun z => D.ex z ρ
theorem qs_fld (c : Cls X.K C) (n : NoAttr X.K C f) (he : QE X e te) (ho : QE X o to) (hn : noComp e = true) : QS X (.Assign [.Attribute o f apos] e pos) (sFldD C f te to) := by
  refine ⟨fun D ρ G σ H h rs s tk => ?_⟩
  refine PS.ws (ps_fld pe_max pe_max (swaps_no hn)) ?_
  refine (he.run ρ G _ _ σ H h rs s (tk.tk rs)).imp fun v H1 ⟨y, G1, ry, s1, e1, q1⟩ => ?_
  refine (ho.run ρ G1 _ _ σ H1 q1 (rs.mono e1.tup) s1 ((tk.step e1).tk (rs.mono e1.tup))).imp fun w H2 ⟨d, G2, rd, s2, e2, a, dx, fs, ed, g, hl, q⟩ => ?_
  subst ed
  cases rd
  obtain ⟨m, hm, rm⟩ := ins_at s2 g
  have e12 := e1.trans e2
  have tm : TupExt X.K H2 (upd H2 a (.ins C dx (putF f v m))) := tup_mut hm rfl
  refine ⟨a, C, dx, m, rfl, hm, c, n, by rw [rm.length]; exact hl, ?_⟩
  exact ⟨ρ, _, (rs.mono e12.tup).mono tm, s2.mut (c := .ins C dx (putFD f y fs)) (c0 := .ins C dx fs) hm rfl ⟨_, upd_same, (kv_put (ry.mono e2.tup) rm).mono tm⟩, e12.trans (.mut g hm rfl), q⟩
/-- a method of the class, with its promise -/
def MCal (X : Cx) (C : Addr) (m : Str) (sp : DSp) : Prop := ∃ (k : Nat) (f : Addr) (fd : FuncData) (ps : List Str),
  FnOk X.prog X.w X.K X.mg X.base (L2.CX X.prog X.w) k f fd ps (liftSp X.K sp) ∧ Room (k + 1) X.A ∧ Meth X.K C m f ∧ Binds X.K fd ps []
theorem meth_eq {env : PySem.Env} (hb : baseOk o = true) (hn : es.all noStar = true) (hl : es.length < 30) (hline : (apos.endLine == cpos.line) = true) :
    eval (.Call (.Attribute o m apos) es [] cpos) env = (do
      let ov ← eval o env
      standAt apos.atName
      let (f, first) ← holding [ov] (getMethod ov m (do return (← importBound o env).getD true))
      callWith cpos f first (backTo cpos (starEach es env)) (backToKw cpos (keywordEach [] env))) := by
  have hf : methodCallForm (es.length + ([] : List Keyword).length) (backTo cpos (starEach es env)) (backToKw cpos (keywordEach [] env)) = true := by
    unfold methodCallForm
    rw [starEach_all hn cpos]
    show (true && true && decide (es.length + 0 + 0 < 30)) = true
    rw [decide_eq_true (by omega)]
    rfl
  show (attributeBase o m env (eval o env) >>= fun ov => standAt apos.atName >>= fun _ => methodCall o m apos cpos env ov (es.length + ([] : List Keyword).length) (backTo cpos (starEach es env)) (backToKw cpos (keywordEach [] env))) = _
  rw [base_ok hb]
  unfold methodCall
  rw [hf]
  unfold calleeOf methodCallPos
  rw [hline]
  simp only [Bool.not_true, Bool.or_true, if_true, pure_bind]
/-- o.m(..) -/
def dMeth (C : Addr) (m : Str) (sp : DSp) (to : DE) (t : DA) : DE := fun ρ G Q xq => to ρ G (fun d G1 => ∃ a dx fs, d = .ref a ∧ G1 a = some (.ins C dx fs) ∧ fs.lookup m = none ∧ t ρ G1 (fun ds G2 => sp (.ref a :: ds) G2 Q xq) xq) xq
theorem qe_meth (M : MCal X C m sp) (c : Cls X.K C) (ho : QE X o to) (ha : QA X (e :: es) tas) (hb : baseOk o = true) (hn : (e :: es).all noStar = true) (hl : (e :: es).length < 30) (hline : (apos.endLine == cpos.line) = true) :
    QE X (.Call (.Attribute o m apos) (e :: es) [] cpos) (dMeth C m sp to tas) := by
  obtain ⟨k, f, fd, ps, F, hr, hm, hb2⟩ := M
  have hr := hr.mono (Nat.le_succ k)
  have hn2 := hn
  rw [List.all_cons, Bool.and_eq_true] at hn2
  refine ⟨fun ρ G Q xq σ H h rs s tk => ?_⟩
  intro pins s0 I
  refine PySem.W.methodCall_KW (pl := do return (← importBound o X.env).getD true) (thn ((ho.run ρ G _ xq σ H h rs s tk) pins s0 I) fun u s1 ⟨v, H1, I1, rx, d, G1, rd, sm1, e1, a, dx, fs, ed, g, l, q⟩ => ?_) (meth_eq hb hn hl hline)
  subst ed
  cases rd
  obtain rfl : u = Value.ref a := rx
  obtain ⟨mm, hmm, rm⟩ := ins_at sm1 g
  refine getmeth_ok I1 hmm c hm (kv_none rm l) ?_
  have hA := (ha.run ρ G1 _ xq σ H1 q (rs.mono e1.tup) sm1 (tk.step e1)) cpos pins s1 I1
  refine PySem.W.callWith_K (first := [.ref a]) (h₀ := X.base) I.ok.mod.kin hm.kp (thn hA fun us s2 ⟨vs, H2, I2, r2, ds, G2, rds, sm2, e2, q2⟩ => ⟨I2.kIn, ?_⟩) (starEach_cons hn2.1) (starEach_any hn2.2 _)
  refine run_fnSD (E := fun σ cls d H' => XW X cls d σ H') (us := .ref a :: us) (vs := .ref a :: vs) F hr hb2 .nil passes_max I2 (.cons rfl r2) ?_
  have e12 := e1.trans e2
  exact ⟨.ref a :: ds, G2, Q, xq, by rw [List.append_nil]; exact .cons (.ref a) rds, sm2, q2, fun v H' lf => Lift.back e12 _ _ lf, fun z cls d G' H' x1 x2 x3 x4 => tk z cls d G' H' x1 x2 (e12.trans x3) x4⟩
theorem qe_meth0 (M : MCal X C m sp) (c : Cls X.K C) (ho : QE X o to) (hb : baseOk o = true) (hline : (apos.endLine == cpos.line) = true) :
    QE X (.Call (.Attribute o m apos) [] [] cpos) (dMeth C m sp to dNil) := by
  obtain ⟨k, f, fd, ps, F, hr, hm, hb2⟩ := M
  have hr := hr.mono (Nat.le_succ k)
  refine ⟨fun ρ G Q xq σ H h rs s tk => ?_⟩
  intro pins s0 I
  refine PySem.W.methodCall_KW (pl := do return (← importBound o X.env).getD true) (thn ((ho.run ρ G _ xq σ H h rs s tk) pins s0 I) fun u s1 ⟨v, H1, I1, rx, d, G1, rd, sm1, e1, a, dx, fs, ed, g, l, q⟩ => ?_) (meth_eq hb rfl (by simp) hline)
  subst ed
  cases rd
  obtain rfl : u = Value.ref a := rx
  obtain ⟨mm, hmm, rm⟩ := ins_at sm1 g
  refine getmeth_ok I1 hmm c hm (kv_none rm l) ?_
  refine PySem.W.callWith_K0 (first := [.ref a]) I1.kIn hm.kp (run_fnSD (E := fun σ cls d H' => XW X cls d σ H') (us := [.ref a]) (vs := [.ref a]) F hr hb2 .nil passes_max I1 (.cons rfl .nil) ?_)
  exact ⟨[.ref a], G1, Q, xq, .cons (.ref a) .nil, sm1, q, fun v H' lf => Lift.back e1 _ _ lf, fun z cls d G' H' x1 x2 x3 x4 => tk z cls d G' H' x1 x2 (e1.trans x3) x4⟩
/-- the class can be made -/
def KCal (X : Cx) (x : Str) (C : Addr) (sp : DSp) : Prop := ∃ (k : Nat) (f : Addr) (fd : FuncData) (ps : List Str),
  FnOk X.prog X.w X.K X.mg X.base (L2.CX X.prog X.w) k f fd ps (liftSp X.K sp) ∧ Room (k + 1) X.A ∧ Mk X.K C f ∧ X.mg x = some (.ref C) ∧ Binds X.K fd ps []
/-- C(..): a new object, then __init__; what __init__ may raise is not served -/
def dMk (C : Addr) (sp : DSp) (t : DA) : DE := fun ρ G Q xq => t ρ G (fun ds G1 => ∀ y dx, G1 y = none → sp (.ref y :: ds) (put G1 y (.ins C dx [])) (fun d G2 => d = .non ∧ Q (.ref y) G2) (fun _ _ => False)) xq
theorem never_passes : Passes (L2.CX X.prog X.w) X (fun _ _ _ => False) := fun pins σ H s e s' I h => by
  obtain ⟨_, _, _, _, _, _, _, _, _, _, _, _, z⟩ := h
  exact z.elim
theorem mk_run {G G1 : Sto} {H H1 : Hp} {ds : List D} {vs : List V} {Q : DQ} (sm1 : Sim X.K G1 H1) (e1 : Ext X.K G H G1 H1) (rds : Reps X.K H1 vs ds) (q : ∀ y dx, G1 y = none → sp (.ref y :: ds) (put G1 y (.ins C dx [])) (fun d G2 => d = .non ∧ Q (.ref y) G2) (fun _ _ => False)) :
    ∀ y dx, H1 y = none → H1 dx = none → dx ≠ y → liftSp X.K sp (.ref y :: (vs ++ [])) (upd (upd H1 dx (.own y)) y (.ins C dx [])) (fun v H2 => v = .non ∧ Lift X.K G H Q (.ref y) H2) (fun _ _ _ => False) := by
  intro y dx hy hdx hne
  have hy2 : upd H1 dx (.own y) y = none := by rw [upd_ne (Ne.symm hne)]; exact hy
  have x2 : Ext X.K G1 H1 G1 (upd H1 dx (.own y)) := .newT hdx
  have s2 : Sim X.K G1 (upd H1 dx (.own y)) := sm1.newT hdx
  have x3 : Ext X.K G1 (upd H1 dx (.own y)) (put G1 y (.ins C dx [])) (upd (upd H1 dx (.own y)) y (.ins C dx [])) := .new hy2
  have s3 : Sim X.K (put G1 y (.ins C dx [])) (upd (upd H1 dx (.own y)) y (.ins C dx [])) := s2.new hy2 ⟨[], upd_same, True.intro⟩
  have x13 := e1.trans (x2.trans x3)
  refine ⟨.ref y :: ds, put G1 y (.ins C dx []), _, _, by rw [List.append_nil]; exact .cons (.ref y) ((rds.mono x2.tup).mono x3.tup), s3, q y dx (sm1.free hy), fun v H' lf => ?_, fun z cls d G' H' x1 x2 x3 x4 => x4⟩
  obtain ⟨d, G', rd, sm, ex, ed, q2⟩ := lf
  subst ed
  cases rd
  exact ⟨rfl, .ref y, G', .ref y, sm, x13.trans ex, q2⟩
theorem qe_mk (M : KCal X x C sp) (hg : Gl X x) (ha : QA X (e :: es) tas) (hd : (x == ("__debug__" : Str)) = false) (hn : (e :: es).all noStar = true) :
    QE X (.Call (.Name x p) (e :: es) [] pos) (dMk C sp tas) := by
  obtain ⟨k, f, fd, ps, F, hr, hm, hx, hb⟩ := M
  rw [List.all_cons, Bool.and_eq_true] at hn
  refine ⟨fun ρ G Q xq σ H h rs s tk => ?_⟩
  refine PE.we (pe_make hm F hr hg hx hb .nil never_passes pa_max hd (starEach_cons hn.1) (starEach_any hn.2 _)) ?_
  refine (ha.run ρ G _ xq σ H h rs s tk).imp fun vs H1 ⟨ds, G1, r1, s1, e1, q1⟩ => ?_
  exact mk_run s1 e1 r1 q1
theorem qe_mk0 (M : KCal X x C sp) (hg : Gl X x) (hd : (x == ("__debug__" : Str)) = false) :
    QE X (.Call (.Name x p) [] [] pos) (dMk C sp dNil) := by
  obtain ⟨k, f, fd, ps, F, hr, hm, hx, hb⟩ := M
  refine ⟨fun ρ G Q xq σ H h rs s tk => ?_⟩
  refine PE.we (pe_make0 hm F hr hg hx hb .nil never_passes hd) ?_
  exact mk_run (vs := []) s .refl .nil h
end
end DL

namespace DL
open PySem PySem.Spec PyProof.Rows L2
/-! the core: what a body does, without its text -/
mutual
inductive CE where
  | var (i : Nat) | int (i : Int) | bl (b : Bool) | non | str (s : Str) | glb (j : Nat) | tn (t : Tn)
  | bin (op : Operator) (a b : CE) | cmp (op : CmpOp) (a b : CE) | chn (op op' : CmpOp) (a b c : CE)
  | neg (a : CE) | not (a : CE) | and (a b : CE) | or (a b : CE) | ife (t : CT) (a b : CE)
  | tup (as : CA) | lst (as : CA) | ix (a b : CE) | sl (a : CE) (lo hi : CO) | rev (a : CE)
  | blt (b : Bl) (as : CA) | isiT (ts : List Tn) (a : CE) | mt (m : Mt) (o : CE) (as : CA) | fn (j : Nat) (as : CA)
  | lc (own : List (Str × Nat)) (g : CG) (it : CI) (t : CTs) (e : CE)
  | dct (r : CKv) | dix (a b : CE) | rg (l : Bool) (a : CE)
  | sset (a : CE) | lset (a : CE) | get1 (o a : CE) | get2 (o a b : CE) | dof (a : CE) | rep (a : CE) | dzip (a b : CE)
  | fld (j : Nat) (o : CE) (f : Str) | meth (i j : Nat) (m : Str) (o : CE) (as : CA) | mk (i j : Nat) (as : CA)
  | lstv (as : CA) | lcv (own : List (Str × Nat)) (g : CG) (it : CI) (t : CTs) (e : CE) | addv (a b : CE) | slv (a : CE) (lo hi : CO) | revv (a : CE) | frz (a : CE)
  | ssetv (a : CE) | lofv (a : CE) | sofv (a : CE) | rgv (a : CE) | splv (o a : CE) | dctv (r : CKv)
inductive CKv where
  | nil | cons (k v : CE) (r : CKv)
inductive CA where
  | nil | cons (e : CE) (as : CA)
inductive CO where
  | no | part (e : CE)
inductive CT where
  | cmp (op : CmpOp) (a b : CE) | chn (op op' : CmpOp) (a b c : CE) | not (t : CT) | and (t u : CT) | or (t u : CT) | val (e : CE)
inductive CTs where
  | no | one (t : CT)
inductive CI where
  | it (e : CE) | rng1 (a : CE) | rng2 (a b : CE) | enum (a : CE) | zip (a b : CE) | rev (a : CE)
inductive CG where
  | name (i : Nat) | tup (n : Nat) (gs : CGs) | sub (o i : CE) | dsub (o i : CE)
inductive CGs where
  | nil | cons (g : CG) (gs : CGs)
end
mutual
inductive CS where
  | fldset (j : Nat) (f : Str) (o e : CE) | fail | pass | brk | cont | ret (e : CE) | retN | expr (e : CE) | asg (g : CG) (e : CE) | par2 (i j : Nat) (as : CA) | par3 (i j l : Nat) (as : CA) | asgT (g : CG) (e : CE)
  | setLc (i : Nat) (own : List (Str × Nat)) (g : CG) (it : CI) (t : CTs) (e : CE)
  | setLcv (i : Nat) (own : List (Str × Nat)) (g : CG) (it : CI) (t : CTs) (e : CE)
  | ifs (t : CT) (a b : CB) | fors (g : CG) (it : CI) (b : CB) | whil (t : CT) (b : CB)
inductive CB where
  | nil | cons (s : CS) (b : CB) | lk (i : Nat) (b : CB)
end
def CB.drop : CB → Nat → CB
  | b, 0 => b
  | .nil, _ => .nil
  | .cons _ b, n + 1 => b.drop n
  | .lk _ b, n + 1 => b.drop n
section
variable (F : List DSp) (Gm : List D)
def glbD (j : Nat) : DE := fun _ G Q _ => match Gm[j]? with
  | some d => Q d G
  | none => False
def fnD (j : Nat) (t : DA) : DE := match F[j]? with
  | some sp => dFn sp t
  | none => fun _ _ _ _ => False
def clsD (j : Nat) (k : Addr → DE) : DE := match Gm[j]? with
  | some (.ref C) => k C
  | _ => fun _ _ _ _ => False
def spD (i : Nat) (k : DSp → DE) : DE := match F[i]? with
  | some sp => k sp
  | none => fun _ _ _ _ => False
def clsS (j : Nat) (k : Addr → DS) : DS := match Gm[j]? with
  | some (.ref C) => k C
  | _ => fun _ _ _ => False
def slots : CG → List Nat
  | .name i => [i]
  | .tup _ gs => slotsL gs
  | .sub _ _ => []
  | .dsub _ _ => []
where slotsL : CGs → List Nat
  | .nil => []
  | .cons g gs => slots g ++ slotsL gs
mutual
def denE : CE → DE
  | .var i => dVar i | .int i => dC (.int i) | .bl b => dC (.bl b) | .non => dC .non | .str s => dC (.str s) | .glb j => glbD Gm j | .tn t => dC (.ty t.ty)
  | .bin op a b => dOp (binD op) (denE a) (denE b)
  | .cmp op a b => dOp (cmpD op) (denE a) (denE b)
  | .chn op op' a b c => dChn (cmpD op) (cmpD op') (denE a) (denE b) (denE c)
  | .neg a => dUn negD (denE a)
  | .not a => dNotV (denE a)
  | .and a b => dAndV (denE a) (denE b)
  | .or a b => dOrV (denE a) (denE b)
  | .ife t a b => dIfE (denT t) (denE a) (denE b)
  | .tup as => dTup (denA as)
  | .lst as => dLst (denA as)
  | .ix a b => dOp ixD (denE a) (denE b)
  | .sl a lo hi => dSl (denE a) (denO lo) (denO hi)
  | .rev a => dUn revD (denE a)
  | .blt b as => dCall (bltD b) (denA as)
  | .isiT ts a => dUn (isiT ts) (denE a)
  | .mt m o as => dMt m.ty (mtD m) (denE o) (denA as)
  | .fn j as => fnD F j (denA as)
  | .lc own g it t e => dLc (denI it) (denG g) (denTs t) (denE e) (own.map (·.2))
  | .dct r => dDisp (denKv r)
  | .dix a b => dOp dixD (denE a) (denE b)
  | .rg l a => dRg l (denE a)
  | .sset a => dUn ssetD (denE a)
  | .lset a => dUn lsetD (denE a)
  | .get1 o a => dGet1 (denE o) (denE a)
  | .get2 o a b => dGet2 (denE o) (denE a) (denE b)
  | .dof a => dUn dofD (denE a)
  | .rep a => dUn repD (denE a)
  | .dzip a b => dDzip (denE a) (denE b)
  | .fld j o f => clsD Gm j fun C => dUn (fldD C f) (denE o)
  | .meth i j m o as => clsD Gm j fun C => spD F i fun sp => dMeth C m sp (denE o) (denA as)
  | .mk i j as => clsD Gm j fun C => spD F i fun sp => dMk C sp (denA as)
  | .lstv as => dLstV (denA as)
  | .lcv own g it t e => dLcV (denI it) (denG g) (denTs t) (denE e) (own.map (·.2))
  | .addv a b => dOp addV (denE a) (denE b)
  | .slv a lo hi => dSlV (denE a) (denO lo) (denO hi)
  | .revv a => dUn revV (denE a)
  | .frz a => dFrz (denE a)
  | .ssetv a => dUn ssetV (denE a)
  | .lofv a => dUn lofV (denE a)
  | .sofv a => dUn sofV (denE a)
  | .rgv a => dUn rgVD (denE a)
  | .splv o a => dSplV (denE o) (denE a)
  | .dctv r => dDispV (denKv r)
def denKv : CKv → DKv
  | .nil => kvNil
  | .cons k v r => kvCons (denE k) (denE v) (denKv r)
def denA : CA → DA
  | .nil => dNil
  | .cons e as => dCons (denE e) (denA as)
def denO : CO → DO
  | .no => dNoPart
  | .part e => dPart (denE e)
def denT : CT → DT
  | .cmp op a b => dTest (dOp (cmpD op) (denE a) (denE b))
  | .chn op op' a b c => dTest (dChn (cmpD op) (cmpD op') (denE a) (denE b) (denE c))
  | .not t => dNotT (denT t)
  | .and t u => dAndT (denT t) (denT u)
  | .or t u => dOrT (denT t) (denT u)
  | .val e => dTru (denE e)
def denTs : CTs → DT
  | .no => dYes
  | .one t => denT t
def denI : CI → DI
  | .it e => dIter (denE e)
  | .rng1 a => dItA rng1 (dCons (denE a) dNil)
  | .rng2 a b => dItA rng2 (dCons (denE a) (dCons (denE b) dNil))
  | .enum a => dItA enm (dCons (denE a) dNil)
  | .zip a b => dItA zpp (dCons (denE a) (dCons (denE b) dNil))
  | .rev a => dIRev (denE a)
def denG : CG → DG
  | .name i => gNm i
  | .tup n gs => gTp n (denGs gs)
  | .sub o i => gSb (denE o) (denE i)
  | .dsub o i => gDs (denE o) (denE i)
def denGs : CGs → DGs
  | .nil => gNl
  | .cons g gs => gCs (denG g) (denGs gs)
end
mutual
def denS : CS → DS
  | .fldset j f o e => clsS Gm j fun C => sFldD C f (denE F Gm e) (denE F Gm o)
  | .fail => fun _ _ _ => False
  | .pass => sNext | .brk => sBreak | .cont => sCont
  | .ret e => sRet (denE F Gm e)
  | .retN => sRetN
  | .expr e => sDrop (denE F Gm e)
  | .asg g e => sAsg (denE F Gm e) (denG F Gm g)
  | .par2 i j as => sPar2 i j (denA F Gm as)
  | .par3 i j l as => sPar3 i j l (denA F Gm as)
  | .asgT g e => sAsg (denE F Gm e) (denG F Gm g)
  | .setLc i own g it t e => sAsg (dLc (denI F Gm it) (denG F Gm g) (denTs F Gm t) (denE F Gm e) (own.map (·.2))) (gNm i)
  | .setLcv i own g it t e => sAsg (dLcV (denI F Gm it) (denG F Gm g) (denTs F Gm t) (denE F Gm e) (own.map (·.2))) (gNm i)
  | .ifs t a b => sIf (denT F Gm t) (denB a) (denB b)
  | .fors g it b => sFor (denI F Gm it) (denG F Gm g) (denB b)
  | .whil t b => sWhile (denT F Gm t) (denB b)
def denB : CB → DS
  | .nil => sNext
  | .cons s b => sSeq (denS s) (denB b)
  | .lk i b => sLk i (denB b)
end
end
/-! the check of a body against its core -/
structure Ci where
  N : List Str
  sc : Scope
  own : Option Scope
  fns : List Str
  glbs : List Str
  blts : List Str
/-- c.m -/
def dot (c m : Str) : Str := c ++ "." ++ m
def dotted (x : Str) : Bool := x.cps.contains 46
def Ci.fldOk (ci : Ci) (j : Nat) (f : Str) : Bool := match ci.glbs[j]? with
  | some c => ci.blts.contains (dot c f)
  | none => false
def Ci.metOk (ci : Ci) (i j : Nat) (m : Str) : Bool := match ci.glbs[j]?, ci.fns[i]? with
  | some c, some y => decide (y = dot c m)
  | _, _ => false
def Ci.blk (ci : Ci) (scope : Scope) : Ci := { ci with sc := relS scope ci.sc, own := some scope }
def isK (k : Option NameKind) (l : NameKind) : Bool := match k, l with
  | some .local, .local => true
  | some .cell, .cell => true
  | some .free, .free => true
  | some .globalImplicit, .globalImplicit => true
  | _, _ => false
theorem isK_eq {k : Option NameKind} {l : NameKind} (h : isK k l = true) : k = some l := by
  unfold isK at h
  split at h <;> first | rfl | cases h
def Ci.kind (ci : Ci) (x : Str) : Option NameKind := ci.sc.names.lookup x
def Ci.vis (ci : Ci) (x : Str) : Bool := isK (ci.kind x) .local || isK (ci.kind x) .cell || isK (ci.kind x) .free
def Ci.loc (ci : Ci) (x : Str) : Bool := isK (ci.kind x) .local || (isK (ci.kind x) .cell && (match ci.own with
  | none => true
  | some s => isK (s.names.lookup x) .cell))
def Ci.gl (ci : Ci) (x : Str) : Bool := isK (ci.kind x) .globalImplicit
def Ci.slot (ci : Ci) (i : Nat) (x : Str) : Bool := match ci.N[i]? with
  | some y => decide (y = x)
  | none => false
def Ci.bltin (ci : Ci) (x : Str) : Bool := ci.gl x && ci.blts.contains x
def okName (x : Str) : Bool := !(x == ("__debug__" : Str)) && !(x == ("__classdict__" : Str))
def nthIs (l : List Str) (j : Nat) (x : Str) : Bool := match l[j]? with
  | some y => decide (y = x)
  | none => false
def plainTest : Expr → Bool
  | .UnaryOp .Not _ _ => false | .BoolOp .. => false | .IfExp .. => false | .Compare .. => false
  | _ => true
mutual
def chkE (ci : Ci) : CE → Expr → Bool
  | .var i, z0 => match z0 with
    | .Name x _ => ci.slot i x && ci.vis x && okName x
    | _ => false
  | .int i, z0 => match z0 with
    | .Constant (.int j) _ _ => decide (i = j)
    | _ => false
  | .bl b, z0 => match z0 with
    | .Constant (.bool c) _ _ => b == c
    | _ => false
  | .non, z0 => match z0 with
    | .Constant .none _ _ => true
    | _ => false
  | .str s, z0 => match z0 with
    | .Constant (.str t) _ _ => decide (s = t)
    | _ => false
  | .glb j, z0 => match z0 with
    | .Name x _ => ci.gl x && nthIs ci.glbs j x && okName x
    | _ => false
  | .tn t, z0 => match z0 with
    | .Name x _ => decide (x = t.name) && ci.bltin x
    | _ => false
  | .bin op a b, z0 => match z0 with
    | .BinOp e op' e' _ => decide (op = op') && chkE ci a e && chkE ci b e'
    | _ => false
  | .cmp op a b, z0 => match z0 with
    | .Compare e [op'] [e'] _ => decide (op = op') && !behindInMarks op e' && chkE ci a e && chkE ci b e'
    | _ => false
  | .chn op1 op2 a b c, z0 => match z0 with
    | .Compare e [op1', op2'] [e', e''] _ => decide (op1 = op1') && decide (op2 = op2') && !lastMarks [op1, op2] [e', e''] && chkE ci a e && chkE ci b e' && chkE ci c e''
    | _ => false
  | .neg a, z0 => match z0 with
    | .UnaryOp .USub e _ => chkE ci a e
    | _ => false
  | .not a, z0 => match z0 with
    | .UnaryOp .Not e _ => chkE ci a e
    | _ => false
  | .and a b, z0 => match z0 with
    | .BoolOp .And (e :: e' :: es) p => chkE ci a e && (match es with
        | [] => chkE ci b e'
        | _ :: _ => chkE ci b (.BoolOp .And (e' :: es) p))
    | _ => false
  | .or a b, z0 => match z0 with
    | .BoolOp .Or (e :: e' :: es) p => chkE ci a e && (match es with
        | [] => chkE ci b e'
        | _ :: _ => chkE ci b (.BoolOp .Or (e' :: es) p))
    | _ => false
  | .ife t a b, z0 => match z0 with
    | .IfExp c e e' _ => chkT ci t c && chkE ci a e && chkE ci b e'
    | _ => false
  | .tup as, z0 => match z0 with
    | .Tuple es _ _ => chkA ci as es
    | _ => false
  | .lst as, z0 => match z0 with
    | .List es _ => chkA ci as es
    | _ => false
  | .ix a b, z0 => match z0 with
    | .Subscript e e' _ => plainSub e' && chkE ci a e && chkE ci b e'
    | _ => false
  | .sl a lo hi, z0 => match z0 with
    | .Subscript e (.Slice l h none _) _ => chkE ci a e && chkO ci lo l && chkO ci hi h
    | _ => false
  | .rev a, z0 => match z0 with
    | .Subscript e (.Slice none none (some (.UnaryOp .USub (.Constant (.int 1) _ _) _)) _) _ => chkE ci a e
    | _ => false
  | .blt b as, z0 => match z0 with
    | .Call (.Name x _) (e :: es) [] _ => decide (x = b.name) && ci.bltin x && chkA ci as (e :: es)
    | _ => false
  | .isiT ts a, z0 => match z0 with
    | .Call (.Name x _) [e, .Tuple es _ _] [] _ => decide (x = "isinstance") && ci.bltin x && noStar e && isNames ts es && (ts.all fun t => ci.bltin t.name) && decide (ts.length ≤ 1000) && chkE ci a e
    | _ => false
  | .mt m o as, z0 => match z0 with
    | .Call (.Attribute e x ap) es [] cp => decide (x = m.name) && baseOk e && (ap.endLine == cp.line) && decide (es.length < 30) && chkE ci o e && chkA ci as es
    | _ => false
  | .fn j as, z0 => match z0 with
    | .Call (.Name x _) es [] _ => ci.gl x && nthIs ci.fns j x && okName x && chkA ci as es && (dotted x == false)
    | _ => false
  | .fld j o f, z0 => match z0 with
    | .Attribute e x _ => decide (x = f) && baseOk e && ci.fldOk j f && chkE ci o e
    | _ => false
  | .meth i j m o as, z0 => match z0 with
    | .Call (.Attribute e x ap) es [] cp => decide (x = m) && baseOk e && (ap.endLine == cp.line) && decide (es.length < 30) && ci.metOk i j m && chkE ci o e && chkA ci as es
    | _ => false
  | .mk i j as, z0 => match z0 with
    | .Call (.Name x _) es [] _ => ci.gl x && nthIs ci.glbs j x && ci.metOk i j "__init__" && okName x && chkA ci as es
    | _ => false
  | .lc own g it t e, z0 => match z0 with
    | .ListComp elt [⟨tg, iter, ifs, 0⟩] scope _ => blkC ci.N ci.sc scope own && noSet iter && (slots g).all (fun j => decide (j ∈ own.map (·.2))) && chkI ci it tg iter && chkG (ci.blk scope) g tg && chkTs (ci.blk scope) t ifs && chkE (ci.blk scope) e elt
    | _ => false
  | .dct r, z0 => match z0 with
    | .Dict ks vs _ => decide (ks.length ≤ 15) && chkKv ci r ks vs
    | _ => false
  | .dix a b, z0 => match z0 with
    | .Subscript e e' _ => plainSub e' && chkE ci a e && chkE ci b e'
    | _ => false
  | .rg l a, z0 => match z0 with
    | .Call (.Name x _) [.Call (.Name y _) [e] [] _] [] _ => decide (x = if l then "list" else "tuple") && ci.bltin x && decide (y = "range") && ci.bltin y && noStar e && chkE ci a e
    | _ => false
  | .sset a, z0 => match z0 with
    | .Call (.Name x _) [.Call (.Name y _) [e] [] _] [] _ => decide (x = "sorted") && ci.bltin x && decide (y = "set") && ci.bltin y && noStar e && chkE ci a e
    | _ => false
  | .lset a, z0 => match z0 with
    | .Call (.Name x _) [.Call (.Name y _) [e] [] _] [] _ => decide (x = "len") && ci.bltin x && decide (y = "set") && ci.bltin y && noStar e && chkE ci a e
    | _ => false
  | .get1 o a, z0 => match z0 with
    | .Call (.Attribute e x ap) [e1] [] cp => decide (x = "get") && baseOk e && noStar e1 && (ap.endLine == cp.line) && chkE ci o e && chkE ci a e1
    | _ => false
  | .get2 o a b, z0 => match z0 with
    | .Call (.Attribute e x ap) [e1, e2] [] cp => decide (x = "get") && baseOk e && noStar e1 && noStar e2 && (ap.endLine == cp.line) && chkE ci o e && chkE ci a e1 && chkE ci b e2
    | _ => false
  | .dof a, z0 => match z0 with
    | .Call (.Name x _) [e] [] _ => decide (x = "dict") && ci.bltin x && noStar e && chkE ci a e
    | _ => false
  | .dzip a b, z0 => match z0 with
    | .Call (.Name x _) [.Call (.Name y _) [e1, e2] [] _] [] _ => decide (x = "dict") && ci.bltin x && decide (y = "zip") && ci.bltin y && noStar e1 && noStar e2 && chkE ci a e1 && chkE ci b e2
    | _ => false
  | .rep a, z0 => match z0 with
    | .Call (.Name x _) [e] [] _ => decide (x = "repr") && ci.bltin x && noStar e && chkE ci a e
    | _ => false
  | .lstv as, z0 => match z0 with
    | .List es _ => chkA ci as es
    | _ => false
  | .lcv own g it t e, z0 => match z0 with
    | .ListComp elt [⟨tg, iter, ifs, 0⟩] scope _ => blkC ci.N ci.sc scope own && noSet iter && (slots g).all (fun j => decide (j ∈ own.map (·.2))) && chkI ci it tg iter && chkG (ci.blk scope) g tg && chkTs (ci.blk scope) t ifs && chkE (ci.blk scope) e elt
    | _ => false
  | .addv a b, z0 => match z0 with
    | .BinOp e op' e' _ => decide (op' = .Add) && chkE ci a e && chkE ci b e'
    | _ => false
  | .slv a lo hi, z0 => match z0 with
    | .Subscript e (.Slice l h none _) _ => chkE ci a e && chkO ci lo l && chkO ci hi h
    | _ => false
  | .revv a, z0 => match z0 with
    | .Subscript e (.Slice none none (some (.UnaryOp .USub (.Constant (.int 1) _ _) _)) _) _ => chkE ci a e
    | _ => false
  | .frz a, z0 => chkE ci a z0
  | .ssetv a, z0 => match z0 with
    | .Call (.Name x _) [.Call (.Name y _) [e] [] _] [] _ => decide (x = "sorted") && ci.bltin x && decide (y = "set") && ci.bltin y && noStar e && chkE ci a e
    | _ => false
  | .lofv a, z0 => match z0 with
    | .Call (.Name x _) [e] [] _ => decide (x = "list") && ci.bltin x && noStar e && chkE ci a e
    | _ => false
  | .sofv a, z0 => match z0 with
    | .Call (.Name x _) [e] [] _ => decide (x = "sorted") && ci.bltin x && noStar e && chkE ci a e
    | _ => false
  | .rgv a, z0 => match z0 with
    | .Call (.Name x _) [.Call (.Name y _) [e] [] _] [] _ => decide (x = "list") && ci.bltin x && decide (y = "range") && ci.bltin y && noStar e && chkE ci a e
    | _ => false
  | .splv o a, z0 => match z0 with
    | .Call (.Attribute e x ap) [e1] [] cp => decide (x = "split") && baseOk e && noStar e1 && (ap.endLine == cp.line) && chkE ci o e && chkE ci a e1
    | _ => false
  | .dctv r, z0 => match z0 with
    | .Dict ks vs _ => decide (ks.length ≤ 15) && chkKv ci r ks vs
    | _ => false
def chkKv (ci : Ci) : CKv → List (Option Expr) → List Expr → Bool
  | .nil, z0, z1 => match z0, z1 with
    | [], [] => true
    | _, _ => false
  | .cons k v r, z0, z1 => match z0, z1 with
    | some k' :: ks, v' :: vs => chkE ci k k' && chkE ci v v' && chkKv ci r ks vs
    | _, _ => false
def chkA (ci : Ci) : CA → List Expr → Bool
  | .nil, z0 => match z0 with
    | [] => true
    | _ => false
  | .cons e as, z0 => match z0 with
    | x :: xs => noStar x && chkE ci e x && chkA ci as xs
    | _ => false
def chkO (ci : Ci) : CO → Option Expr → Bool
  | .no, z0 => match z0 with
    | none => true
    | _ => false
  | .part e, z0 => match z0 with
    | some x => chkE ci e x
    | _ => false
def chkT (ci : Ci) : CT → Expr → Bool
  | .cmp op a b, z0 => match z0 with
    | .Compare e [op'] [e'] _ => decide (op = op') && !behindInMarks op e' && chkE ci a e && chkE ci b e'
    | _ => false
  | .chn op1 op2 a b c, z0 => match z0 with
    | .Compare e [op1', op2'] [e', e''] _ => decide (op1 = op1') && decide (op2 = op2') && !lastMarks [op1, op2] [e', e''] && chkE ci a e && chkE ci b e' && chkE ci c e''
    | _ => false
  | .not t, z0 => match z0 with
    | .UnaryOp .Not e _ => chkT ci t e
    | _ => false
  | .and a b, z0 => match z0 with
    | .BoolOp .And (e :: e' :: es) p => chkT ci a e && (match es with
        | [] => chkT ci b e'
        | _ :: _ => chkT ci b (.BoolOp .And (e' :: es) p))
    | _ => false
  | .or a b, z0 => match z0 with
    | .BoolOp .Or (e :: e' :: es) p => chkT ci a e && (match es with
        | [] => chkT ci b e'
        | _ :: _ => chkT ci b (.BoolOp .Or (e' :: es) p))
    | _ => false
  | .val e, z0 => match z0 with
    | x => plainTest x && chkE ci e x
def chkTs (ci : Ci) : CTs → List Expr → Bool
  | .no, z0 => match z0 with
    | [] => true
    | _ => false
  | .one t, z0 => match z0 with
    | [x] => chkT ci t x
    | _ => false
def chkI (ci : Ci) : CI → Expr → Expr → Bool
  | .it e, z0, z1 => match z0, z1 with
    | _, x => chkE ci e x
  | .rng1 a, z0, z1 => match z0, z1 with
    | _, .Call (.Name x _) [e] [] _ => decide (x = "range") && ci.bltin x && noStar e && chkE ci a e
    | _, _ => false
  | .rng2 a b, z0, z1 => match z0, z1 with
    | _, .Call (.Name x _) [e, e'] [] _ => decide (x = "range") && ci.bltin x && noStar e && noStar e' && chkE ci a e && chkE ci b e'
    | _, _ => false
  | .enum a, z0, z1 => match z0, z1 with
    | .Tuple _ _ _, .Call (.Name x _) [e] [] _ => decide (x = "enumerate") && ci.bltin x && noStar e && chkE ci a e
    | _, _ => false
  | .zip a b, z0, z1 => match z0, z1 with
    | .Tuple _ _ _, .Call (.Name x _) [e, e'] [] _ => decide (x = "zip") && ci.bltin x && noStar e && noStar e' && chkE ci a e && chkE ci b e'
    | _, _ => false
  | .rev a, z0, z1 => match z0, z1 with
    | _, .Call (.Name x _) [e] [] _ => decide (x = "reversed") && ci.bltin x && noStar e && chkE ci a e
    | _, _ => false
def chkG (ci : Ci) : CG → Expr → Bool
  | .name i, z0 => match z0 with
    | .Name x _ => ci.slot i x && ci.loc x
    | _ => false
  | .tup n gs, z0 => match z0 with
    | .Tuple es _ _ => decide (n = es.length) && chkGs ci gs es
    | _ => false
  | .sub o i, z0 => match z0 with
    | .Subscript e e' _ => plainSub e' && chkE ci o e && chkE ci i e'
    | _ => false
  | .dsub o i, z0 => match z0 with
    | .Subscript e e' _ => plainSub e' && chkE ci o e && chkE ci i e'
    | _ => false
def chkGs (ci : Ci) : CGs → List Expr → Bool
  | .nil, z0 => match z0 with
    | [] => true
    | _ => false
  | .cons g gs, z0 => match z0 with
    | x :: xs => noStar x && chkG ci g x && chkGs ci gs xs
    | _ => false
end
/-! a context that fits -/
structure Fit (F : List DSp) (Gm : List D) (ci : Ci) (X : Cx) : Prop where
  N : X.N = ci.N
  nd : ci.N.Nodup
  sc : X.env.scope = ci.sc
  kind : ci.sc.kind = .function
  calm : X.calm = true
  own : match ci.own with
    | none => ∀ x, X.fn x = true
    | some s => ∀ x, X.fn x = (s.names.lookup x == some .cell)
  hu : X.A.units + 65 < cLine
  cal : ∀ (j : Nat) x sp, ci.fns[j]? = some x → F[j]? = some sp → dotted x = false → Cal X x sp
  cls : ∀ (j : Nat) C, Gm[j]? = some (.ref C) → Cls X.K C
  fld : ∀ (j : Nat) c C fl, ci.glbs[j]? = some c → Gm[j]? = some (.ref C) → dot c fl ∈ ci.blts → NoAttr X.K C fl
  met : ∀ (i j : Nat) c C m sp, ci.glbs[j]? = some c → Gm[j]? = some (.ref C) → ci.fns[i]? = some (dot c m) → F[i]? = some sp → MCal X C m sp
  mkr : ∀ (i j : Nat) c C sp, ci.glbs[j]? = some c → Gm[j]? = some (.ref C) → ci.fns[i]? = some (dot c "__init__") → F[i]? = some sp → KCal X c C sp
  glb : ∀ (j : Nat) x d, ci.glbs[j]? = some x → Gm[j]? = some d → Glb X x d
  blt : ∀ x, x ∈ ci.blts → X.mg x = none
  gd : ("repr" : Str) ∈ ci.blts → X.A.guards = some []
section
variable {F : List DSp} {Gm : List D} {ci : Ci} {X : Cx}
theorem Fit.slot (f : Fit F Gm ci X) {i : Nat} {x : Str} (h : ci.slot i x = true) : X.N[i]? = some x := by
  rw [f.N]
  unfold Ci.slot at h
  split at h
  · rename_i y e
    rw [e, of_decide_eq_true h]
  · cases h
theorem Fit.vis (f : Fit F Gm ci X) {x : Str} (h : ci.vis x = true) : Vis X.env.scope x := by
  unfold Ci.vis at h
  rw [Bool.or_eq_true, Bool.or_eq_true] at h
  unfold Vis
  rw [f.sc]
  rcases h with (h | h) | h
  · exact .inl (isK_eq h)
  · exact .inr (.inl (isK_eq h))
  · exact .inr (.inr (isK_eq h))
theorem Fit.gl (f : Fit F Gm ci X) {x : Str} (h : ci.gl x = true) : Gl X x := by
  unfold Gl
  show X.env.scope.names.lookup x = _
  rw [f.sc]
  exact isK_eq h
theorem Fit.bltin (f : Fit F Gm ci X) {x : Str} (h : ci.bltin x = true) : Gl X x ∧ X.mg x = none := by
  unfold Ci.bltin at h
  rw [Bool.and_eq_true] at h
  exact ⟨f.gl h.1, f.blt x (List.contains_iff_mem.mp h.2)⟩
theorem Fit.grd (f : Fit F Gm ci X) (h : ci.bltin "repr" = true) : X.A.guards = some [] := by
  unfold Ci.bltin at h
  rw [Bool.and_eq_true] at h
  exact f.gd (List.contains_iff_mem.mp h.2)
theorem Fit.fldN (f : Fit F Gm ci X) {j : Nat} {C : Addr} {fl : Str} (h : ci.fldOk j fl = true) (g : Gm[j]? = some (.ref C)) : NoAttr X.K C fl := by
  unfold Ci.fldOk at h
  split at h
  · rename_i c e
    exact f.fld j c C fl e g (List.contains_iff_mem.mp h)
  · cases h
theorem Fit.metM (f : Fit F Gm ci X) {i j : Nat} {C : Addr} {m : Str} {sp : DSp} (h : ci.metOk i j m = true) (g : Gm[j]? = some (.ref C)) (hs : F[i]? = some sp) : MCal X C m sp := by
  unfold Ci.metOk at h
  split at h
  · rename_i c y e1 e2
    have := of_decide_eq_true h
    subst this
    exact f.met i j c C m sp e1 g e2 hs
  · cases h
theorem Fit.mkM (f : Fit F Gm ci X) {i j : Nat} {C : Addr} {c : Str} {sp : DSp} (h : ci.metOk i j "__init__" = true) (hc : ci.glbs[j]? = some c) (g : Gm[j]? = some (.ref C)) (hs : F[i]? = some sp) : KCal X c C sp := by
  unfold Ci.metOk at h
  split at h
  · rename_i c' y e1 e2
    have := of_decide_eq_true h
    subst this
    rw [hc] at e1
    cases e1
    exact f.mkr i j c C sp hc g e2 hs
  · cases h
theorem Fit.loc (f : Fit F Gm ci X) {x : Str} (h : ci.loc x = true) : L2.Loc X.env.scope x ∧ (X.fn x = true ∨ X.env.scope.names.lookup x = some .local) := by
  unfold Ci.loc at h
  rw [Bool.or_eq_true, Bool.and_eq_true] at h
  unfold L2.Loc
  rw [f.sc]
  rcases h with h | ⟨h, h2⟩
  · exact ⟨.inl (isK_eq h), .inr (isK_eq h)⟩
  · refine ⟨.inr (isK_eq h), .inl ?_⟩
    have fo := f.own
    split at h2
    · rename_i e
      rw [e] at fo
      exact fo x
    · rename_i s e
      rw [e] at fo
      rw [fo x, isK_eq h2]
      rfl
theorem okName_ok {x : Str} (h : okName x = true) : (x == ("__debug__" : Str)) = false ∧ (x == ("__classdict__" : Str)) = false := by
  unfold okName at h
  rw [Bool.and_eq_true] at h
  exact ⟨by simpa using h.1, by simpa using h.2⟩
theorem nth_ok {l : List Str} {j : Nat} {x : Str} (h : nthIs l j x = true) : l[j]? = some x := by
  unfold nthIs at h
  split at h
  · rename_i y e
    rw [e, of_decide_eq_true h]
  · cases h
theorem Fit.blk (f : Fit F Gm ci X) {scope : Scope} (hk : scope.kind = .function) {Y : Cx} (b : Blk X scope Y) : Fit F Gm (ci.blk scope) Y := by
  obtain ⟨s, H, C, cl, fp, rfl⟩ := b
  refine ⟨f.N, f.nd, ?_, hk, f.calm, fun _ => rfl, f.hu, f.cal, f.cls, f.fld, f.met, f.mkr, f.glb, f.blt, f.gd⟩
  show relS scope X.env.scope = relS scope ci.sc
  rw [f.sc]
theorem chkA_star : ∀ {as : CA} {es : List Expr}, chkA ci as es = true → es.all noStar = true
  | .nil, es, h => by
    unfold chkA at h
    split at h
    · rfl
    · cases h
  | .cons e as, es, h => by
    unfold chkA at h
    split at h
    · rw [Bool.and_eq_true, Bool.and_eq_true] at h
      rw [List.all_cons, h.1.1, chkA_star h.2]
      rfl
    · cases h
theorem chkGs_star : ∀ {as : CGs} {es : List Expr}, chkGs ci as es = true → es.all noStar = true
  | .nil, es, h => by
    unfold chkGs at h
    split at h
    · rfl
    · cases h
  | .cons e as, es, h => by
    unfold chkGs at h
    split at h
    · rw [Bool.and_eq_true, Bool.and_eq_true] at h
      rw [List.all_cons, h.1.1, chkGs_star h.2]
      rfl
    · cases h
theorem plainIx_ok {b : Expr} (h : plainSub b = true) : PlainIx b := by
  intro o i
  cases b <;> first | rfl | cases h
theorem plainTest_ok {a : Expr} {env : PySem.Env} (h : plainTest a = true) : ∀ whole, isTrue a env whole = (do let v ← whole; standAt a.pos; holding [v] (truthy v)) := by
  intro whole
  cases a with
  | UnaryOp op x p => cases op <;> first | rfl | cases h
  | _ => first | rfl | cases h
def isBop : Expr → Bool
  | .BoolOp .. => true
  | _ => false
/-- a test, and where it is a chain of and, or, whatever the whole is -/
structure QTW (X : Cx) (e : Expr) (t : DT) : Prop where
  qt : QT X e t
  qw : isBop e = true → QW X e t
end
end DL

namespace DL
open PySem PySem.Spec PyProof.Rows L2
section
variable {F : List DSp} {Gm : List D}
theorem slotsL_eq (gs : CGs) : slots.slotsL gs = slots.slotsL gs := rfl
mutual
theorem okE : ∀ (c : CE) (ci : Ci) (X : Cx) (e : Expr), Fit F Gm ci X → chkE ci c e = true → QE X e (denE F Gm c)
  | .var i, ci, X, e, f, h => by
    unfold chkE at h
    split at h
    · simp only [Bool.and_eq_true] at h
      obtain ⟨⟨h1, h2⟩, h3⟩ := h
      exact qe_var (f.slot h1) (f.vis h2) (okName_ok h3).1 (okName_ok h3).2
    · cases h
  | .int i, ci, X, e, f, h => by
    unfold chkE at h
    split at h
    · cases of_decide_eq_true h
      exact qe_int
    · cases h
  | .bl b, ci, X, e, f, h => by
    unfold chkE at h
    split at h
    · cases eq_of_beq h
      exact qe_bl
    · cases h
  | .non, ci, X, e, f, h => by
    unfold chkE at h
    split at h
    · exact qe_non
    · cases h
  | .str s, ci, X, e, f, h => by
    unfold chkE at h
    split at h
    · cases of_decide_eq_true h
      exact qe_str
    · cases h
  | .glb j, ci, X, e, f, h => by
    unfold chkE at h
    split at h
    · simp only [Bool.and_eq_true] at h
      obtain ⟨⟨h1, h2⟩, h3⟩ := h
      refine ⟨fun ρ G Q xq σ H q rs s tk => ?_⟩
      have q : glbD Gm j ρ G Q xq := q
      unfold glbD at q
      split at q
      · rename_i d ed
        exact (qe_glb (f.gl h1) (f.glb j _ d (nth_ok h2) ed) (okName_ok h3).1).run ρ G Q xq σ H q rs s tk
      · exact q.elim
    · cases h
  | .tn t, ci, X, e, f, h => by
    unfold chkE at h
    split at h
    · simp only [Bool.and_eq_true, decide_eq_true_eq] at h
      obtain ⟨rfl, h⟩ := h
      exact qe_tn (f.bltin h).1 (f.bltin h).2
    · cases h
  | .bin op a b, ci, X, e, f, h => by
    unfold chkE at h
    split at h
    · simp only [Bool.and_eq_true, decide_eq_true_eq] at h
      obtain ⟨⟨rfl, h1⟩, h2⟩ := h
      exact (op_binD op).op (okE a ci X _ f h1) (okE b ci X _ f h2)
    · cases h
  | .cmp op a b, ci, X, e, f, h => by
    unfold chkE at h
    split at h
    · simp only [Bool.and_eq_true, decide_eq_true_eq, Bool.not_eq_true'] at h
      obtain ⟨⟨⟨rfl, h0⟩, h1⟩, h2⟩ := h
      exact (op_cmpD (Nat.lt_of_succ_lt f.hu) op).cmp (okE a ci X _ f h1) (okE b ci X _ f h2) h0
    · cases h
  | .chn op op' a b c, ci, X, e, f, h => by
    unfold chkE at h
    split at h
    · simp only [Bool.and_eq_true, decide_eq_true_eq, Bool.not_eq_true'] at h
      obtain ⟨⟨⟨⟨⟨rfl, rfl⟩, h0⟩, h1⟩, h2⟩, h3⟩ := h
      exact qe_chn (op_cmpD (Nat.lt_of_succ_lt f.hu) op) (op_cmpD (Nat.lt_of_succ_lt f.hu) op') (okE a ci X _ f h1) (okE b ci X _ f h2) (okE c ci X _ f h3) h0
    · cases h
  | .neg a, ci, X, e, f, h => by
    unfold chkE at h
    split at h
    · exact qe_neg (okE a ci X _ f h)
    · cases h
  | .not a, ci, X, e, f, h => by
    unfold chkE at h
    split at h
    · exact qe_not (okE a ci X _ f h)
    · cases h
  | .and a b, ci, X, e, f, h => by
    unfold chkE at h
    split at h
    · rename_i z e1 e2 es p
      rw [Bool.and_eq_true] at h
      obtain ⟨h1, h2⟩ := h
      split at h2
      · exact qe_and (okE a ci X _ f h1) (qe_one (okE b ci X _ f h2))
      · exact qe_and (okE a ci X _ f h1) (okE b ci X _ f h2)
    · cases h
  | .or a b, ci, X, e, f, h => by
    unfold chkE at h
    split at h
    · rename_i z e1 e2 es p
      rw [Bool.and_eq_true] at h
      obtain ⟨h1, h2⟩ := h
      split at h2
      · exact qe_or (okE a ci X _ f h1) (qe_one (okE b ci X _ f h2))
      · exact qe_or (okE a ci X _ f h1) (okE b ci X _ f h2)
    · cases h
  | .ife t a b, ci, X, e, f, h => by
    unfold chkE at h
    split at h
    · simp only [Bool.and_eq_true] at h
      obtain ⟨⟨h0, h1⟩, h2⟩ := h
      exact qe_ife (okT t ci X _ f h0).qt (okE a ci X _ f h1) (okE b ci X _ f h2)
    · cases h
  | .tup as, ci, X, e, f, h => by
    unfold chkE at h
    split at h
    · exact qe_tup (okA as ci X _ f h)
    · cases h
  | .lst as, ci, X, e, f, h => by
    unfold chkE at h
    split at h
    · exact qe_lst (okA as ci X _ f h)
    · cases h
  | .ix a b, ci, X, e, f, h => by
    unfold chkE at h
    split at h
    · simp only [Bool.and_eq_true] at h
      obtain ⟨⟨h0, h1⟩, h2⟩ := h
      exact qe_ix (by have := f.hu; omega) (okE a ci X _ f h1) (okE b ci X _ f h2) (plainIx_ok h0)
    · cases h
  | .sl a lo hi, ci, X, e, f, h => by
    unfold chkE at h
    split at h
    · simp only [Bool.and_eq_true] at h
      obtain ⟨⟨h0, h1⟩, h2⟩ := h
      exact qe_sl (okE a ci X _ f h0) (okO lo ci X _ f h1) (okO hi ci X _ f h2)
    · cases h
  | .rev a, ci, X, e, f, h => by
    unfold chkE at h
    split at h
    · exact qe_rev (okE a ci X _ f h)
    · cases h
  | .blt b as, ci, X, e, f, h => by
    unfold chkE at h
    split at h
    · simp only [Bool.and_eq_true, decide_eq_true_eq] at h
      obtain ⟨⟨rfl, h1⟩, h2⟩ := h
      have hs := chkA_star h2
      rw [List.all_cons, Bool.and_eq_true] at hs
      exact qe_blt (blt_ok f.calm b) (f.bltin h1).1 (f.bltin h1).2 (okA as ci X _ f h2) (starEach_cons hs.1) (starEach_any hs.2 _)
    · cases h
  | .isiT ts a, ci, X, e, f, h => by
    unfold chkE at h
    split at h
    · simp only [Bool.and_eq_true, decide_eq_true_eq, List.all_eq_true] at h
      obtain ⟨⟨⟨⟨⟨⟨rfl, h1⟩, h2⟩, h3⟩, h4⟩, h5⟩, h6⟩ := h
      exact qe_isiT (f.bltin h1).1 (f.bltin h1).2 (okE a ci X _ f h6) h2 h3 (fun t ht => f.bltin (h4 t ht)) h5
    · cases h
  | .mt m o as, ci, X, e, f, h => by
    unfold chkE at h
    split at h
    · rename_i z e1 x ap es cp
      simp only [Bool.and_eq_true, decide_eq_true_eq] at h
      obtain ⟨⟨⟨⟨⟨rfl, h1⟩, h2⟩, h3⟩, h4⟩, h5⟩ := h
      cases es with
      | nil =>
        cases as with
        | nil => exact qe_mt0 (mt_ok f.hu m) (okE o ci X _ f h4) h1 h2
        | cons _ _ => unfold chkA at h5; cases h5
      | cons e2 es => exact qe_mt (mt_ok f.hu m) (okE o ci X _ f h4) (okA as ci X _ f h5) h1 (chkA_star h5) h3 h2
    · cases h
  | .fn j as, ci, X, e, f, h => by
    unfold chkE at h
    split at h
    · rename_i z x ap es cp
      simp only [Bool.and_eq_true] at h
      obtain ⟨⟨⟨⟨h1, h2⟩, h3⟩, h4⟩, h5⟩ := h
      have h5 : dotted x = false := eq_of_beq h5
      have main : ∀ sp, F[j]? = some sp → QE X (.Call (.Name x ap) es [] cp) (dFn sp (denA F Gm as)) := fun sp hsp => by
        cases es with
        | nil =>
          cases as with
          | nil => exact qe_fn0 (f.cal j x sp (nth_ok h2) hsp h5) (f.gl h1) (okName_ok h3).1
          | cons _ _ => unfold chkA at h4; cases h4
        | cons e2 es => exact qe_fn (f.cal j x sp (nth_ok h2) hsp h5) (f.gl h1) (okA as ci X _ f h4) (okName_ok h3).1 (chkA_star h4)
      show QE X _ (fnD F j (denA F Gm as))
      unfold fnD
      split
      · rename_i sp hsp
        exact main sp hsp
      · exact ⟨fun _ _ _ _ _ _ q _ _ _ => q.elim⟩
    · cases h
  | .lc own g it t e0, ci, X, e, f, h => by
    unfold chkE at h
    split at h
    · rename_i z elt tg iter ifs scope p
      simp only [Bool.and_eq_true, List.all_eq_true, decide_eq_true_eq] at h
      obtain ⟨⟨⟨⟨⟨⟨h1, h2⟩, h3⟩, h4⟩, h5⟩, h6⟩, h7⟩ := h
      have bo : BlkOk X.N X.env.scope scope own := by rw [f.N, f.sc]; exact blkOk_by h1
      exact qe_lc f.calm (by rw [f.N]; exact f.nd) (okI it ci X _ _ f h4) bo (fun Y hY => okG g (ci.blk scope) Y _ (f.blk bo.kind hY) h5) (fun Y hY => okTs t (ci.blk scope) Y _ (f.blk bo.kind hY) h6)
        (fun Y hY => okE e0 (ci.blk scope) Y _ (f.blk bo.kind hY) h7) h3 h2
    · cases h
  | .dct r, ci, X, e, f, h => by
    unfold chkE at h
    split at h
    · simp only [Bool.and_eq_true, decide_eq_true_eq] at h
      exact qe_disp (okKv r ci X _ _ f h.2) h.1
    · cases h
  | .dix a b, ci, X, e, f, h => by
    unfold chkE at h
    split at h
    · simp only [Bool.and_eq_true] at h
      obtain ⟨⟨h0, h1⟩, h2⟩ := h
      exact qe_dix (by have := f.hu; omega) (okE a ci X _ f h1) (okE b ci X _ f h2) (plainIx_ok h0)
    · cases h
  | .rg l a, ci, X, e, f, h => by
    unfold chkE at h
    split at h
    · simp only [Bool.and_eq_true, decide_eq_true_eq] at h
      obtain ⟨⟨⟨⟨⟨h1, h2⟩, h3⟩, h4⟩, h5⟩, h6⟩ := h
      subst h3
      cases l with
      | true =>
        have h1 : _ = ("list" : Str) := h1
        subst h1
        exact qe_rgL f.calm (f.bltin h2).1 (f.bltin h2).2 (f.bltin h4).1 (f.bltin h4).2 (okE a ci X _ f h6) h5 rfl
      | false =>
        have h1 : _ = ("tuple" : Str) := h1
        subst h1
        exact qe_rgT f.calm (f.bltin h2).1 (f.bltin h2).2 (f.bltin h4).1 (f.bltin h4).2 (okE a ci X _ f h6) h5 rfl
    · cases h
  | .sset a, ci, X, e, f, h => by
    unfold chkE at h
    split at h
    · simp only [Bool.and_eq_true, decide_eq_true_eq] at h
      obtain ⟨⟨⟨⟨⟨rfl, h2⟩, rfl⟩, h4⟩, h5⟩, h6⟩ := h
      exact qe_sset f.calm (f.bltin h2).1 (f.bltin h2).2 (f.bltin h4).1 (f.bltin h4).2 (okE a ci X _ f h6) h5
    · cases h
  | .lset a, ci, X, e, f, h => by
    unfold chkE at h
    split at h
    · simp only [Bool.and_eq_true, decide_eq_true_eq] at h
      obtain ⟨⟨⟨⟨⟨rfl, h2⟩, rfl⟩, h4⟩, h5⟩, h6⟩ := h
      exact qe_lset f.calm (f.bltin h2).1 (f.bltin h2).2 (f.bltin h4).1 (f.bltin h4).2 (okE a ci X _ f h6) h5
    · cases h
  | .get1 o a, ci, X, e, f, h => by
    unfold chkE at h
    split at h
    · simp only [Bool.and_eq_true, decide_eq_true_eq] at h
      obtain ⟨⟨⟨⟨⟨rfl, h1⟩, h2⟩, h3⟩, h4⟩, h5⟩ := h
      exact qe_get1 (by have := f.hu; omega) (okE o ci X _ f h4) (okE a ci X _ f h5) h1 h2 h3
    · cases h
  | .get2 o a b, ci, X, e, f, h => by
    unfold chkE at h
    split at h
    · simp only [Bool.and_eq_true, decide_eq_true_eq] at h
      obtain ⟨⟨⟨⟨⟨⟨⟨rfl, h1⟩, h2⟩, h2'⟩, h3⟩, h4⟩, h5⟩, h6⟩ := h
      exact qe_get2 (by have := f.hu; omega) (okE o ci X _ f h4) (okE a ci X _ f h5) (okE b ci X _ f h6) h1 h2 h2' h3
    · cases h
  | .dof a, ci, X, e, f, h => by
    unfold chkE at h
    split at h
    · simp only [Bool.and_eq_true, decide_eq_true_eq] at h
      obtain ⟨⟨⟨rfl, h2⟩, h5⟩, h6⟩ := h
      exact qe_dof f.calm (f.bltin h2).1 (f.bltin h2).2 (okE a ci X _ f h6) h5
    · cases h
  | .fld j o fl, ci, X, e, f, h => by
    unfold chkE at h
    split at h
    · simp only [Bool.and_eq_true, decide_eq_true_eq] at h
      obtain ⟨⟨⟨rfl, h1⟩, h2⟩, h3⟩ := h
      show QE X _ (clsD Gm j _)
      unfold clsD
      split
      · rename_i C g
        exact qe_fld (f.cls j C g) (f.fldN h2 g) (okE o ci X _ f h3) h1
      · exact ⟨fun _ _ _ _ _ _ q _ _ _ => q.elim⟩
    · cases h
  | .meth i j m o as, ci, X, e, f, h => by
    unfold chkE at h
    split at h
    · rename_i z e1 x ap es cp
      simp only [Bool.and_eq_true, decide_eq_true_eq] at h
      obtain ⟨⟨⟨⟨⟨⟨rfl, h1⟩, h2⟩, h3⟩, h4⟩, h5⟩, h6⟩ := h
      show QE X _ (clsD Gm j _)
      unfold clsD
      split
      · rename_i C g
        show QE X _ (spD F i _)
        unfold spD
        split
        · rename_i sp hsp
          cases es with
          | nil =>
            cases as with
            | nil => exact qe_meth0 (f.metM h4 g hsp) (f.cls j C g) (okE o ci X _ f h5) h1 h2
            | cons _ _ => unfold chkA at h6; cases h6
          | cons e2 es => exact qe_meth (f.metM h4 g hsp) (f.cls j C g) (okE o ci X _ f h5) (okA as ci X _ f h6) h1 (chkA_star h6) h3 h2
        · exact ⟨fun _ _ _ _ _ _ q _ _ _ => q.elim⟩
      · exact ⟨fun _ _ _ _ _ _ q _ _ _ => q.elim⟩
    · cases h
  | .mk i j as, ci, X, e, f, h => by
    unfold chkE at h
    split at h
    · rename_i z x ap es cp
      simp only [Bool.and_eq_true] at h
      obtain ⟨⟨⟨⟨h1, h2⟩, h3⟩, h4⟩, h5⟩ := h
      show QE X _ (clsD Gm j _)
      unfold clsD
      split
      · rename_i C g
        show QE X _ (spD F i _)
        unfold spD
        split
        · rename_i sp hsp
          cases es with
          | nil =>
            cases as with
            | nil => exact qe_mk0 (f.mkM h3 (nth_ok h2) g hsp) (f.gl h1) (okName_ok h4).1
            | cons _ _ => unfold chkA at h5; cases h5
          | cons e2 es => exact qe_mk (f.mkM h3 (nth_ok h2) g hsp) (f.gl h1) (okA as ci X _ f h5) (okName_ok h4).1 (chkA_star h5)
        · exact ⟨fun _ _ _ _ _ _ q _ _ _ => q.elim⟩
      · exact ⟨fun _ _ _ _ _ _ q _ _ _ => q.elim⟩
    · cases h
  | .dzip a b, ci, X, e, f, h => by
    unfold chkE at h
    split at h
    · simp only [Bool.and_eq_true, decide_eq_true_eq] at h
      obtain ⟨⟨⟨⟨⟨⟨⟨rfl, h2⟩, rfl⟩, h3⟩, h4⟩, h5⟩, h6⟩, h7⟩ := h
      exact qe_dzip f.calm (f.bltin h2).1 (f.bltin h2).2 (f.bltin h3).1 (f.bltin h3).2 (okE a ci X _ f h6) (okE b ci X _ f h7) h4 h5
    · cases h
  | .rep a, ci, X, e, f, h => by
    unfold chkE at h
    split at h
    · simp only [Bool.and_eq_true, decide_eq_true_eq] at h
      obtain ⟨⟨⟨rfl, h2⟩, h5⟩, h6⟩ := h
      exact qe_rep (f.grd h2) (by have := f.hu; omega) (f.bltin h2).1 (f.bltin h2).2 (okE a ci X _ f h6) h5
    · cases h
  | .lstv as, ci, X, e, f, h => by
    unfold chkE at h
    split at h
    · exact qe_lstV (okA as ci X _ f h)
    · cases h
  | .lcv own g it t e0, ci, X, e, f, h => by
    unfold chkE at h
    split at h
    · rename_i z elt tg iter ifs scope p
      simp only [Bool.and_eq_true, List.all_eq_true, decide_eq_true_eq] at h
      obtain ⟨⟨⟨⟨⟨⟨h1, h2⟩, h3⟩, h4⟩, h5⟩, h6⟩, h7⟩ := h
      have bo : BlkOk X.N X.env.scope scope own := by rw [f.N, f.sc]; exact blkOk_by h1
      exact qe_lcV f.calm (by rw [f.N]; exact f.nd) (okI it ci X _ _ f h4) bo (fun Y hY => okG g (ci.blk scope) Y _ (f.blk bo.kind hY) h5) (fun Y hY => okTs t (ci.blk scope) Y _ (f.blk bo.kind hY) h6)
        (fun Y hY => okE e0 (ci.blk scope) Y _ (f.blk bo.kind hY) h7) h3 h2
    · cases h
  | .addv a b, ci, X, e, f, h => by
    unfold chkE at h
    split at h
    · simp only [Bool.and_eq_true, decide_eq_true_eq] at h
      obtain ⟨⟨rfl, h1⟩, h2⟩ := h
      exact op_addV.op (okE a ci X _ f h1) (okE b ci X _ f h2)
    · cases h
  | .slv a lo hi, ci, X, e, f, h => by
    unfold chkE at h
    split at h
    · simp only [Bool.and_eq_true] at h
      exact qe_slV (okE a ci X _ f h.1.1) (okO lo ci X _ f h.1.2) (okO hi ci X _ f h.2)
    · cases h
  | .revv a, ci, X, e, f, h => by
    unfold chkE at h
    split at h
    · exact qe_revV (okE a ci X _ f h)
    · cases h
  | .frz a, ci, X, e, f, h => by
    unfold chkE at h
    exact qe_frz (okE a ci X _ f h)
  | .ssetv a, ci, X, e, f, h => by
    unfold chkE at h
    split at h
    · simp only [Bool.and_eq_true, decide_eq_true_eq] at h
      obtain ⟨⟨⟨⟨⟨rfl, h2⟩, rfl⟩, h4⟩, h5⟩, h6⟩ := h
      exact qe_ssetV f.calm (f.bltin h2).1 (f.bltin h2).2 (f.bltin h4).1 (f.bltin h4).2 (okE a ci X _ f h6) h5
    · cases h
  | .lofv a, ci, X, e, f, h => by
    unfold chkE at h
    split at h
    · simp only [Bool.and_eq_true, decide_eq_true_eq] at h
      obtain ⟨⟨⟨rfl, h2⟩, h5⟩, h6⟩ := h
      exact qe_lofV (f.bltin h2).1 (f.bltin h2).2 (okE a ci X _ f h6) h5
    · cases h
  | .sofv a, ci, X, e, f, h => by
    unfold chkE at h
    split at h
    · simp only [Bool.and_eq_true, decide_eq_true_eq] at h
      obtain ⟨⟨⟨rfl, h2⟩, h5⟩, h6⟩ := h
      exact qe_sofV (f.bltin h2).1 (f.bltin h2).2 (okE a ci X _ f h6) h5
    · cases h
  | .rgv a, ci, X, e, f, h => by
    unfold chkE at h
    split at h
    · simp only [Bool.and_eq_true, decide_eq_true_eq] at h
      obtain ⟨⟨⟨⟨⟨rfl, h2⟩, rfl⟩, h4⟩, h5⟩, h6⟩ := h
      exact qe_rgV f.calm (f.bltin h2).1 (f.bltin h2).2 (f.bltin h4).1 (f.bltin h4).2 (okE a ci X _ f h6) h5
    · cases h
  | .splv o a, ci, X, e, f, h => by
    unfold chkE at h
    split at h
    · simp only [Bool.and_eq_true, decide_eq_true_eq] at h
      obtain ⟨⟨⟨⟨⟨rfl, h1⟩, h2⟩, h3⟩, h4⟩, h5⟩ := h
      exact qe_splV (okE o ci X _ f h4) (okE a ci X _ f h5) h1 h2 h3
    · cases h
  | .dctv r, ci, X, e, f, h => by
    unfold chkE at h
    split at h
    · simp only [Bool.and_eq_true, decide_eq_true_eq] at h
      exact qe_dispV (okKv r ci X _ _ f h.2) h.1
    · cases h
theorem okKv : ∀ (c : CKv) (ci : Ci) (X : Cx) (ks : List (Option Expr)) (vs : List Expr), Fit F Gm ci X → chkKv ci c ks vs = true → QKv X ks vs (denKv F Gm c)
  | .nil, ci, X, ks, vs, f, h => by
    unfold chkKv at h
    split at h
    · exact qkv_nil
    · cases h
  | .cons k v r, ci, X, ks, vs, f, h => by
    unfold chkKv at h
    split at h
    · simp only [Bool.and_eq_true] at h
      obtain ⟨⟨h0, h1⟩, h2⟩ := h
      exact qkv_cons (okE k ci X _ f h0) (okE v ci X _ f h1) (okKv r ci X _ _ f h2)
    · cases h
theorem okA : ∀ (c : CA) (ci : Ci) (X : Cx) (e : List Expr), Fit F Gm ci X → chkA ci c e = true → QA X e (denA F Gm c)
  | .nil, ci, X, e, f, h => by
    unfold chkA at h
    split at h
    · exact qa_nil
    · cases h
  | .cons e0 as, ci, X, e, f, h => by
    unfold chkA at h
    split at h
    · simp only [Bool.and_eq_true] at h
      obtain ⟨⟨h0, h1⟩, h2⟩ := h
      exact qa_cons (okE e0 ci X _ f h1) (okA as ci X _ f h2) (starEach_cons h0)
    · cases h
theorem okO : ∀ (c : CO) (ci : Ci) (X : Cx) (e : Option Expr), Fit F Gm ci X → chkO ci c e = true → QO X e (denO F Gm c)
  | .no, ci, X, e, f, h => by
    unfold chkO at h
    split at h
    · exact qo_none
    · cases h
  | .part e0, ci, X, e, f, h => by
    unfold chkO at h
    split at h
    · exact qo_some (okE e0 ci X _ f h)
    · cases h
theorem okT : ∀ (c : CT) (ci : Ci) (X : Cx) (e : Expr), Fit F Gm ci X → chkT ci c e = true → QTW X e (denT F Gm c)
  | .cmp op a b, ci, X, e, f, h => by
    unfold chkT at h
    split at h
    · simp only [Bool.and_eq_true, decide_eq_true_eq, Bool.not_eq_true'] at h
      obtain ⟨⟨⟨rfl, h0⟩, h1⟩, h2⟩ := h
      exact ⟨(op_cmpD (Nat.lt_of_succ_lt f.hu) op).cmpT (okE a ci X _ f h1) (okE b ci X _ f h2) h0, fun z => by cases z⟩
    · cases h
  | .chn op op' a b c, ci, X, e, f, h => by
    unfold chkT at h
    split at h
    · simp only [Bool.and_eq_true, decide_eq_true_eq, Bool.not_eq_true'] at h
      obtain ⟨⟨⟨⟨⟨rfl, rfl⟩, h0⟩, h1⟩, h2⟩, h3⟩ := h
      exact ⟨qt_chn (op_cmpD (Nat.lt_of_succ_lt f.hu) op) (op_cmpD (Nat.lt_of_succ_lt f.hu) op') (okE a ci X _ f h1) (okE b ci X _ f h2) (okE c ci X _ f h3) h0, fun z => by cases z⟩
    · cases h
  | .not t, ci, X, e, f, h => by
    unfold chkT at h
    split at h
    · exact ⟨qt_not (okT t ci X _ f h).qt, fun z => by cases z⟩
    · cases h
  | .and a b, ci, X, e, f, h => by
    unfold chkT at h
    split at h
    · rename_i z e1 e2 es p
      rw [Bool.and_eq_true] at h
      obtain ⟨h1, h2⟩ := h
      have w : QW X (.BoolOp .And (e1 :: e2 :: es) p) (denT F Gm (.and a b)) := by
        split at h2
        · exact qw_and (okT a ci X _ f h1).qt (qw_and1 (okT b ci X _ f h2).qt)
        · exact qw_and (okT a ci X _ f h1).qt ((okT b ci X _ f h2).qw rfl)
      exact ⟨w.qt, fun _ => w⟩
    · cases h
  | .or a b, ci, X, e, f, h => by
    unfold chkT at h
    split at h
    · rename_i z e1 e2 es p
      rw [Bool.and_eq_true] at h
      obtain ⟨h1, h2⟩ := h
      have w : QW X (.BoolOp .Or (e1 :: e2 :: es) p) (denT F Gm (.or a b)) := by
        split at h2
        · exact qw_or (okT a ci X _ f h1).qt (qw_or1 (okT b ci X _ f h2).qt)
        · exact qw_or (okT a ci X _ f h1).qt ((okT b ci X _ f h2).qw rfl)
      exact ⟨w.qt, fun _ => w⟩
    · cases h
  | .val e0, ci, X, e, f, h => by
    unfold chkT at h
    have h : (plainTest e && chkE ci e0 e) = true := h
    rw [Bool.and_eq_true] at h
    obtain ⟨h1, h2⟩ := h
    refine ⟨qt_val (okE e0 ci X _ f h2) (plainTest_ok h1), fun z => ?_⟩
    cases e <;> first | (cases h1; done) | (cases z; done)
theorem okTs : ∀ (c : CTs) (ci : Ci) (X : Cx) (e : List Expr), Fit F Gm ci X → chkTs ci c e = true → QTs X e (denTs F Gm c)
  | .no, ci, X, e, f, h => by
    unfold chkTs at h
    split at h
    · exact qts_nil
    · cases h
  | .one t, ci, X, e, f, h => by
    unfold chkTs at h
    split at h
    · exact qts_one (okT t ci X _ f h).qt
    · cases h
theorem okI : ∀ (c : CI) (ci : Ci) (X : Cx) (tg e : Expr), Fit F Gm ci X → chkI ci c tg e = true → QI X tg e (denI F Gm c)
  | .it e0, ci, X, tg, e, f, h => by
    unfold chkI at h
    have h : chkE ci e0 e = true := h
    exact qi_it (okE e0 ci X _ f h)
  | .rng1 a, ci, X, tg, e, f, h => by
    unfold chkI at h
    split at h
    · simp only [Bool.and_eq_true, decide_eq_true_eq] at h
      obtain ⟨⟨⟨rfl, h1⟩, h2⟩, h3⟩ := h
      exact qi_rng1 (f.bltin h1).1 (f.bltin h1).2 (qa_cons (okE a ci X _ f h3) qa_nil (starEach_cons h2)) h2
    · cases h
  | .rng2 a b, ci, X, tg, e, f, h => by
    unfold chkI at h
    split at h
    · simp only [Bool.and_eq_true, decide_eq_true_eq] at h
      obtain ⟨⟨⟨⟨⟨rfl, h1⟩, h2⟩, h3⟩, h4⟩, h5⟩ := h
      exact qi_rng2 (f.bltin h1).1 (f.bltin h1).2 (qa_cons (okE a ci X _ f h4) (qa_cons (okE b ci X _ f h5) qa_nil (starEach_cons h3)) (starEach_cons h2)) h2 h3
    · cases h
  | .enum a, ci, X, tg, e, f, h => by
    unfold chkI at h
    split at h
    · simp only [Bool.and_eq_true, decide_eq_true_eq] at h
      obtain ⟨⟨⟨rfl, h1⟩, h2⟩, h3⟩ := h
      exact qi_enum (f.bltin h1).1 (f.bltin h1).2 (qa_cons (okE a ci X _ f h3) qa_nil (starEach_cons h2)) h2
    · cases h
  | .zip a b, ci, X, tg, e, f, h => by
    unfold chkI at h
    split at h
    · simp only [Bool.and_eq_true, decide_eq_true_eq] at h
      obtain ⟨⟨⟨⟨⟨rfl, h1⟩, h2⟩, h3⟩, h4⟩, h5⟩ := h
      exact qi_zip (f.bltin h1).1 (f.bltin h1).2 (qa_cons (okE a ci X _ f h4) (qa_cons (okE b ci X _ f h5) qa_nil (starEach_cons h3)) (starEach_cons h2)) h2 h3
    · cases h
  | .rev a, ci, X, tg, e, f, h => by
    unfold chkI at h
    split at h
    · simp only [Bool.and_eq_true, decide_eq_true_eq] at h
      obtain ⟨⟨⟨rfl, h1⟩, h2⟩, h3⟩ := h
      exact qi_rev (f.bltin h1).1 (f.bltin h1).2 (okE a ci X _ f h3) h2
    · cases h
theorem okG : ∀ (c : CG) (ci : Ci) (X : Cx) (e : Expr), Fit F Gm ci X → chkG ci c e = true → QG X e (slots c) (denG F Gm c)
  | .name i, ci, X, e, f, h => by
    unfold chkG at h
    split at h
    · simp only [Bool.and_eq_true] at h
      exact qg_name (by rw [f.N]; exact f.nd) (f.slot h.1) (f.loc h.2).1 (f.loc h.2).2
    · cases h
  | .tup n gs, ci, X, e, f, h => by
    unfold chkG at h
    split at h
    · simp only [Bool.and_eq_true, decide_eq_true_eq] at h
      obtain ⟨rfl, h⟩ := h
      exact qg_tup f.calm (okGs gs ci X _ f h) (chkGs_star h)
    · cases h
  | .sub o i, ci, X, e, f, h => by
    unfold chkG at h
    split at h
    · simp only [Bool.and_eq_true] at h
      obtain ⟨⟨h0, h1⟩, h2⟩ := h
      exact qg_sub (by have := f.hu; omega) (okE o ci X _ f h1) (okE i ci X _ f h2) h0
    · cases h
  | .dsub o i, ci, X, e, f, h => by
    unfold chkG at h
    split at h
    · simp only [Bool.and_eq_true] at h
      obtain ⟨⟨h0, h1⟩, h2⟩ := h
      exact qg_dsub (by have := f.hu; omega) (okE o ci X _ f h1) (okE i ci X _ f h2) h0
    · cases h
theorem okGs : ∀ (c : CGs) (ci : Ci) (X : Cx) (e : List Expr), Fit F Gm ci X → chkGs ci c e = true → QGs X e (slots.slotsL c) (denGs F Gm c)
  | .nil, ci, X, e, f, h => by
    unfold chkGs at h
    split at h
    · exact qgs_nil
    · cases h
  | .cons g gs, ci, X, e, f, h => by
    unfold chkGs at h
    split at h
    · simp only [Bool.and_eq_true] at h
      obtain ⟨⟨h0, h1⟩, h2⟩ := h
      exact qgs_cons (okG g ci X _ f h1) (okGs gs ci X _ f h2) h0
    · cases h
end
end
/-! statements -/
def noSwapC (tg e : Expr) : Bool := noSwap tg e
mutual
def chkS (ci : Ci) : CS → Stmt → Bool
  | .fldset j fl o e, z => match z with
    | .Assign [.Attribute o' x _] e' _ => decide (x = fl) && noComp e' && ci.fldOk j fl && chkE ci o o' && chkE ci e e'
    | _ => false
  | .fail, _ => true
  | .pass, z => match z with
    | .Pass _ => true
    | _ => false
  | .brk, z => match z with
    | .Break _ => true
    | _ => false
  | .cont, z => match z with
    | .Continue _ => true
    | _ => false
  | .ret e, z => match z with
    | .Return (some x) _ => chkE ci e x
    | _ => false
  | .retN, z => match z with
    | .Return none _ => true
    | _ => false
  | .expr e, z => match z with
    | .Expr x _ => noComp x && chkE ci e x
    | _ => false
  | .asg g e, z => match z with
    | .Assign [tg] x _ => swapsNo ci.sc x tg && noSwap tg x && noStar tg && chkE ci e x && chkG ci g tg
    | _ => false
  | .par2 i j as, z => match z with
    | .Assign [.Tuple [.Name x px, .Name y py] _ _] (.Tuple [a, b] _ _) _ => ci.slot i x && ci.slot j y && decide (i ≠ j) && isK (ci.kind x) .local && isK (ci.kind y) .local &&
        decide (swapR ci.sc [.Name x px, .Name y py] [a, b] = some (some [x, y])) && chkA ci as [a, b]
    | _ => false
  | .par3 i j l as, w => match w with
    | .Assign [.Tuple [.Name x px, .Name y py, .Name z pz] _ _] (.Tuple [a, b, c] _ _) _ => ci.slot i x && ci.slot j y && ci.slot l z && decide (i ≠ j) && decide (i ≠ l) && decide (j ≠ l) && isK (ci.kind x) .local && isK (ci.kind y) .local && isK (ci.kind z) .local &&
        decide (swapR ci.sc [.Name x px, .Name y py, .Name z pz] [a, b, c] = some (some [x, y, z])) && chkA ci as [a, b, c]
    | _ => false
  | .asgT g e, z => match z with
    | .Assign [.Tuple ts k p] (.Tuple vs k2 p2) _ => decide (swapR ci.sc ts vs = some none) && chkE ci e (.Tuple vs k2 p2) && chkG ci g (.Tuple ts k p)
    | _ => false
  | .setLc i own g it t e, z => match z with
    | .Assign [.Name y py] (.ListComp elt [⟨tg, iter, ifs, 0⟩] scope pos) _ => ci.slot i y && isK (ci.kind y) .local && (py.line == pos.line) && !(scope.names.any fun (n, k) => n == y && (k == .local || k == .cell)) &&
        blkC ci.N ci.sc scope own && noSet iter && (slots g).all (fun j => decide (j ∈ own.map (·.2))) && chkI ci it tg iter && chkG (ci.blk scope) g tg && chkTs (ci.blk scope) t ifs && chkE (ci.blk scope) e elt
    | _ => false
  | .setLcv i own g it t e, z => match z with
    | .Assign [.Name y py] (.ListComp elt [⟨tg, iter, ifs, 0⟩] scope pos) _ => ci.slot i y && isK (ci.kind y) .local && (py.line == pos.line) && !(scope.names.any fun (n, k) => n == y && (k == .local || k == .cell)) &&
        blkC ci.N ci.sc scope own && noSet iter && (slots g).all (fun j => decide (j ∈ own.map (·.2))) && chkI ci it tg iter && chkG (ci.blk scope) g tg && chkTs (ci.blk scope) t ifs && chkE (ci.blk scope) e elt
    | _ => false
  | .ifs t a b, z => match z with
    | .If c p q _ => chkT ci t c && chkB ci a p && chkB ci b q
    | _ => false
  | .fors g it b, z => match z with
    | .For tg iter body [] _ => noSet iter && chkI ci it tg iter && chkG ci g tg && chkB ci b body
    | _ => false
  | .whil t b, z => match z with
    | .While c body [] _ => chkT ci t c && chkB ci b body
    | _ => false
def chkB (ci : Ci) : CB → List Stmt → Bool
  | .nil, z => match z with
    | [] => true
    | _ => false
  | .cons s b, z => match z with
    | x :: xs => chkS ci s x && chkB ci b xs
    | _ => false
  | .lk _ b, z => chkB ci b z
end
section
variable {F : List DSp} {Gm : List D} {ci : Ci} {X : Cx} (f : Fit F Gm ci X) (hp : PassesOwn (model X.prog X.w) X.A X.env X.xe)
include f hp
theorem Fit.kindX : X.env.scope.kind = .function := by rw [f.sc]; exact f.kind
theorem Fit.locX {x : Str} (h : isK (ci.kind x) .local = true) : X.env.scope.names.lookup x = some .local := by rw [f.sc]; exact isK_eq h
mutual
theorem okS : ∀ (c : CS) (z : Stmt), chkS ci c z = true → QS X z (denS F Gm c)
  | .fldset j fl o e, z, h => by
    unfold chkS at h
    split at h
    · simp only [Bool.and_eq_true, decide_eq_true_eq] at h
      obtain ⟨⟨⟨⟨rfl, h1⟩, h2⟩, h3⟩, h4⟩ := h
      show QS X _ (clsS Gm j _)
      unfold clsS
      split
      · rename_i C g
        exact qs_fld (f.cls j C g) (f.fldN h2 g) (okE e ci X _ f h4) (okE o ci X _ f h3) h1
      · exact ⟨fun _ _ _ _ _ q _ _ _ => q.elim⟩
    · cases h
  | .fail, z, h => ⟨fun D ρ G σ H q _ _ _ => False.elim q⟩
  | .pass, z, h => by
    unfold chkS at h
    split at h
    · exact qs_pass
    · cases h
  | .brk, z, h => by
    unfold chkS at h
    split at h
    · exact qs_break
    · cases h
  | .cont, z, h => by
    unfold chkS at h
    split at h
    · exact qs_cont
    · cases h
  | .ret e, z, h => by
    unfold chkS at h
    split at h
    · exact qs_ret (okE e ci X _ f h)
    · cases h
  | .retN, z, h => by
    unfold chkS at h
    split at h
    · exact qs_retN
    · cases h
  | .expr e, z, h => by
    unfold chkS at h
    split at h
    · rw [Bool.and_eq_true] at h
      exact qs_expr (okE e ci X _ f h.2) h.1
    · cases h
  | .asg g e, z, h => by
    unfold chkS at h
    split at h
    · simp only [Bool.and_eq_true] at h
      obtain ⟨⟨⟨⟨h1, h2⟩, h3⟩, h4⟩, h5⟩ := h
      exact qs_asgN (okE e ci X _ f h4) (okG g ci X _ f h5) (f.kindX hp) (by rw [f.sc]; exact h1) h2 h3
    · cases h
  | .par2 i j as, z, h => by
    unfold chkS at h
    split at h
    · simp only [Bool.and_eq_true, decide_eq_true_eq] at h
      obtain ⟨⟨⟨⟨⟨⟨h1, h2⟩, h3⟩, h4⟩, h5⟩, h6⟩, h7⟩ := h
      exact qs_par2 f.calm (by rw [f.N]; exact f.nd) (f.slot h1) (f.slot h2) h3 (f.locX hp h4) (f.locX hp h5) (okA as ci X _ f h7) (f.kindX hp) (by rw [f.sc]; exact h6)
    · cases h
  | .par3 i j l as, w, h => by
    unfold chkS at h
    split at h
    · simp only [Bool.and_eq_true, decide_eq_true_eq] at h
      obtain ⟨⟨⟨⟨⟨⟨⟨⟨⟨⟨h1, h2⟩, h3⟩, h4⟩, h5⟩, h6⟩, h7⟩, h8⟩, h9⟩, h10⟩, h11⟩ := h
      exact qs_par3 f.calm (by rw [f.N]; exact f.nd) (f.slot h1) (f.slot h2) (f.slot h3) h4 h5 h6 (f.locX hp h7) (f.locX hp h8) (f.locX hp h9) (okA as ci X _ f h11) (f.kindX hp) (by rw [f.sc]; exact h10)
    · cases h
  | .asgT g e, z, h => by
    unfold chkS at h
    split at h
    · simp only [Bool.and_eq_true, decide_eq_true_eq] at h
      obtain ⟨⟨h1, h2⟩, h3⟩ := h
      exact qs_asgT (okE e ci X _ f h2) (okG g ci X _ f h3) (f.kindX hp) (by rw [f.sc]; exact h1)
    · cases h
  | .setLc i own g it t e0, w, h => by
    unfold chkS at h
    split at h
    · rename_i z y py elt tg iter ifs scope pos sp
      simp only [Bool.and_eq_true, List.all_eq_true, decide_eq_true_eq, Bool.not_eq_true'] at h
      obtain ⟨⟨⟨⟨⟨⟨⟨⟨⟨⟨k1, k2⟩, k3⟩, k4⟩, h1⟩, h2⟩, h3⟩, h4⟩, h5⟩, h6⟩, h7⟩ := h
      have bo : BlkOk X.N X.env.scope scope own := by rw [f.N, f.sc]; exact blkOk_by h1
      exact qs_setLc f.calm (by rw [f.N]; exact f.nd) (f.slot k1) (f.locX hp k2) (sw_true (f.kindX hp) (f.locX hp k2) k3 k4) (okI it ci X _ _ f h4) bo (fun Y hY => okG g (ci.blk scope) Y _ (f.blk bo.kind hY) h5)
        (fun Y hY => okTs t (ci.blk scope) Y _ (f.blk bo.kind hY) h6) (fun Y hY => okE e0 (ci.blk scope) Y _ (f.blk bo.kind hY) h7) h3 h2
    · cases h
  | .setLcv i own g it t e0, w, h => by
    unfold chkS at h
    split at h
    · rename_i z y py elt tg iter ifs scope pos sp
      simp only [Bool.and_eq_true, List.all_eq_true, decide_eq_true_eq, Bool.not_eq_true'] at h
      obtain ⟨⟨⟨⟨⟨⟨⟨⟨⟨⟨k1, k2⟩, k3⟩, k4⟩, h1⟩, h2⟩, h3⟩, h4⟩, h5⟩, h6⟩, h7⟩ := h
      have bo : BlkOk X.N X.env.scope scope own := by rw [f.N, f.sc]; exact blkOk_by h1
      exact qs_setLcV f.calm (by rw [f.N]; exact f.nd) (f.slot k1) (f.locX hp k2) (sw_true (f.kindX hp) (f.locX hp k2) k3 k4) (okI it ci X _ _ f h4) bo (fun Y hY => okG g (ci.blk scope) Y _ (f.blk bo.kind hY) h5)
        (fun Y hY => okTs t (ci.blk scope) Y _ (f.blk bo.kind hY) h6) (fun Y hY => okE e0 (ci.blk scope) Y _ (f.blk bo.kind hY) h7) h3 h2
    · cases h
  | .ifs t a b, z, h => by
    unfold chkS at h
    split at h
    · simp only [Bool.and_eq_true] at h
      obtain ⟨⟨h1, h2⟩, h3⟩ := h
      exact qs_if (okT t ci X _ f h1).qt (okB a _ h2) (okB b _ h3)
    · cases h
  | .fors g it b, z, h => by
    unfold chkS at h
    split at h
    · simp only [Bool.and_eq_true] at h
      obtain ⟨⟨⟨h0, h1⟩, h2⟩, h3⟩ := h
      exact qs_for hp f.calm (okI it ci X _ _ f h1) (okG g ci X _ f h2) (okB b _ h3) h0
    · cases h
  | .whil t b, z, h => by
    unfold chkS at h
    split at h
    · simp only [Bool.and_eq_true] at h
      exact qs_while hp (okT t ci X _ f h.1).qt (okB b _ h.2)
    · cases h
theorem okB : ∀ (c : CB) (z : List Stmt), chkB ci c z = true → QB X z (denB F Gm c)
  | .nil, z, h => by
    unfold chkB at h
    split at h
    · exact qb_nil
    · cases h
  | .cons s b, z, h => by
    unfold chkB at h
    split at h
    · rw [Bool.and_eq_true] at h
      exact qb_cons (okS s _ h.1) (okB b _ h.2)
    · cases h
  | .lk i b, z, h => by
    unfold chkB at h
    exact qb_lk (okB b _ h)
end
end
end DL

namespace DL
open PySem PySem.Spec PyProof.Rows L2
def startD (N : List Str) (ds : List D) : Ev := ds.map some ++ List.replicate (N.length - ds.length) none
theorem start_rep {K : PySem.W.Frag} {H : Hp} {N : List Str} {vs : List V} {ds : List D} (r : Reps K H vs ds) : RepS K H (L2.start N vs) (startD N ds) := by
  have hl := r.length
  refine ⟨?_, fun i d e => ?_⟩
  · unfold L2.start startD
    simp [hl]
  · unfold startD at e
    unfold L2.start
    by_cases hi : i < ds.length
    · rw [List.getElem?_append_left (by simpa using hi), List.getElem?_map] at e
      cases e2 : ds[i]? with
      | none => rw [e2] at e; cases e
      | some d' =>
        rw [e2] at e
        have ed : d' = d := Option.some.inj (Option.some.inj e)
        subst ed
        obtain ⟨v, hv, rv⟩ := r.get e2
        refine ⟨v, ?_, rv⟩
        rw [List.getElem?_append_left (by rw [List.length_map, hl]; exact hi), List.getElem?_map, hv]
        rfl
    · rw [List.getElem?_append_right (by simpa using hi), List.getElem?_replicate] at e
      split at e <;> cases e
section
variable {P : Program} {w : World} {K : PySem.W.Frag} {mg : Str → Option Value} {base : Heap}
/-- a def of the text with its promise at level k -/
def DefOk (P : Program) (w : World) (K : PySem.W.Frag) (mg : Str → Option Value) (base : Heap) (k : Nat) (x : Str) (sp : DSp) : Prop :=
  ∃ (f : Addr) (fd : FuncData) (ps : List Str) (sp0 : DSp) (dd : List D) (dvs : List V) (dus : List Value),
    FnOk P w K mg base (L2.CX P w) k f fd ps (liftSp K sp0) ∧ mg x = some (.ref f) ∧ PySem.W.keepIn K (.ref f) = true ∧ Binds K fd ps dus ∧ Vals dvs dus ∧ (∀ H, Reps K H dvs dd) ∧
      ∀ ds G Q xq, sp ds G Q xq → sp0 (ds ++ dd) G Q xq
theorem DefOk.mono {j k : Nat} {x : Str} {sp : DSp} (d : DefOk P w K mg base j x sp) (h : j ≤ k) : DefOk P w K mg base k x sp := by
  obtain ⟨f, fd, ps, sp0, dd, dvs, dus, F, r⟩ := d
  exact ⟨f, fd, ps, sp0, dd, dvs, dus, F.mono h, r⟩
theorem DefOk.imp {k : Nat} {x : Str} {sp sp' : DSp} (d : DefOk P w K mg base k x sp) (h : ∀ ds G Q xq, sp' ds G Q xq → sp ds G Q xq) : DefOk P w K mg base k x sp' := by
  obtain ⟨f, fd, ps, sp0, dd, dvs, dus, F, r1, r2, r3, r4, r5, r6⟩ := d
  exact ⟨f, fd, ps, sp0, dd, dvs, dus, F, r1, r2, r3, r4, r5, fun ds G Q xq q => r6 _ _ _ _ (h _ _ _ _ q)⟩
/-- the callees' table -/
def Cals (P : Program) (w : World) (K : PySem.W.Frag) (mg : Str → Option Value) (base : Heap) (k : Nat) (fns : List Str) (F : List DSp) : Prop :=
  ∀ (j : Nat) y s, fns[j]? = some y → F[j]? = some s → DefOk P w K mg base k y s
theorem Cals.nil {k : Nat} : Cals P w K mg base k [] [] := fun j y s h => by simp at h
theorem Cals.cons {k : Nat} {y : Str} {s : DSp} {fns : List Str} {F : List DSp} (d : DefOk P w K mg base k y s) (r : Cals P w K mg base k fns F) : Cals P w K mg base k (y :: fns) (s :: F) := fun j y' s' h1 h2 => by
  cases j with
  | zero =>
    have e1 : y = y' := Option.some.inj h1
    have e2 : s = s' := Option.some.inj h2
    subst e1 e2
    exact d
  | succ j => exact r j y' s' (by simpa using h1) (by simpa using h2)
/-- the module's constants -/
def Glbs (K : PySem.W.Frag) (mg : Str → Option Value) (glbs : List Str) (Gm : List D) : Prop :=
  ∀ (j : Nat) y d, glbs[j]? = some y → Gm[j]? = some d → ∃ v u, mg y = some u ∧ RelV v u ∧ ∀ H, Rep K H v d
theorem Glbs.nil : Glbs K mg [] [] := fun j y s h => by simp at h
theorem Glbs.cons {y : Str} {d : D} {glbs : List Str} {Gm : List D} (h : ∃ v u, mg y = some u ∧ RelV v u ∧ ∀ H, Rep K H v d) (r : Glbs K mg glbs Gm) : Glbs K mg (y :: glbs) (d :: Gm) := fun j y' s' h1 h2 => by
  cases j with
  | zero =>
    have e1 : y = y' := Option.some.inj h1
    have e2 : d = s' := Option.some.inj h2
    subst e1 e2
    exact h
  | succ j => exact r j y' s' (by simpa using h1) (by simpa using h2)
theorem glb_int {y : Str} {i : Int} (h : ∃ t, mg y = some (.int i t)) : ∃ v u, mg y = some u ∧ RelV v u ∧ ∀ H, Rep K H v (.int i) := by
  obtain ⟨t, h⟩ := h
  exact ⟨.int i, _, h, ⟨t, rfl⟩, fun _ => .int i⟩
/-- what a body's proof is of -/
abbrev Fin0 (Q : DQ) (xq : XQ) : DEnds := { nx := fun _ G' => Q .non G', rt := Q, ex := fun z _ G' => xq z G' }
/-- some cells may be let go at the end -/
def WQ (Q : DQ) : DQ := fun d G => ∃ G', Dn G G' ∧ Q d G'
def WX (xq : XQ) : XQ := fun z G => ∃ G', Dn G G' ∧ xq z G'
theorem WQ.of {Q : DQ} {d : D} {G : Sto} (h : Q d G) : WQ Q d G := ⟨G, .refl, h⟩
theorem WX.of {Q : XQ} {d : Exn} {G : Sto} (h : Q d G) : WX Q d G := ⟨G, .refl, h⟩
def BodG (F : List DSp) (Gm : List D) (core : CB) (n : Nat) (sp : DSp) : Prop := ∀ ds G Q xq, sp ds G Q xq → ∃ Q' xq', (∀ d G', Q' d G' → WQ Q d G') ∧ (∀ z G', xq' z G' → WX xq z G') ∧ denB F Gm core (Fin0 Q' xq') (ds.map some ++ List.replicate (n - ds.length) none) G
def Bod (F : List DSp) (Gm : List D) (core : CB) (n : Nat) (sp : DSp) : Prop := ∀ ds G Q xq, sp ds G Q xq → denB F Gm core (Fin0 Q xq) (ds.map some ++ List.replicate (n - ds.length) none) G
def BodW (F : List DSp) (Gm : List D) (core : CB) (n : Nat) (sp : DSp) : Prop := ∀ ds G Q xq, sp ds G Q xq → denB F Gm core (Fin0 (WQ Q) (WX xq)) (ds.map some ++ List.replicate (n - ds.length) none) G
theorem Bod.g {F : List DSp} {Gm : List D} {core : CB} {n : Nat} {sp : DSp} (h : Bod F Gm core n sp) : BodG F Gm core n sp := fun ds G Q xq q => ⟨Q, xq, fun _ _ => .of, fun _ _ => .of, h ds G Q xq q⟩
theorem BodW.g {F : List DSp} {Gm : List D} {core : CB} {n : Nat} {sp : DSp} (h : BodW F Gm core n sp) : BodG F Gm core n sp := fun ds G Q xq q => ⟨_, _, fun _ _ z => z, fun _ _ z => z, h ds G Q xq q⟩
theorem BodG.none {F : List DSp} {Gm : List D} {core : CB} {n : Nat} {sp : DSp} (h : ∀ ds G Q xq, sp ds G Q xq → False) : BodG F Gm core n sp := fun ds G Q xq q => (h ds G Q xq q).elim
/-- a method, and a class that can be made, each with its promise -/
def MethOk (P : Program) (w : World) (K : PySem.W.Frag) (mg : Str → Option Value) (base : Heap) (k : Nat) (C : Addr) (m : Str) (sp : DSp) : Prop :=
  ∃ (j : Nat) (f : Addr) (fd : FuncData) (ps : List Str), j + 1 ≤ k ∧ FnOk P w K mg base (L2.CX P w) j f fd ps (liftSp K sp) ∧ Meth K C m f ∧ Binds K fd ps []
def MakeOk (P : Program) (w : World) (K : PySem.W.Frag) (mg : Str → Option Value) (base : Heap) (k : Nat) (x : Str) (C : Addr) (sp : DSp) : Prop :=
  ∃ (j : Nat) (f : Addr) (fd : FuncData) (ps : List Str), j + 1 ≤ k ∧ FnOk P w K mg base (L2.CX P w) j f fd ps (liftSp K sp) ∧ Mk K C f ∧ mg x = some (.ref C) ∧ Binds K fd ps []
structure ClsT (P : Program) (w : World) (K : PySem.W.Frag) (mg : Str → Option Value) (base : Heap) (k : Nat) (fns glbs blts : List Str) (F : List DSp) (Gm : List D) : Prop where
  cls : ∀ (j : Nat) C, Gm[j]? = some (.ref C) → Cls K C
  fld : ∀ (j : Nat) c C fl, glbs[j]? = some c → Gm[j]? = some (.ref C) → dot c fl ∈ blts → NoAttr K C fl
  met : ∀ (i j : Nat) c C m sp, glbs[j]? = some c → Gm[j]? = some (.ref C) → fns[i]? = some (dot c m) → F[i]? = some sp → MethOk P w K mg base k C m sp
  mkr : ∀ (i j : Nat) c C sp, glbs[j]? = some c → Gm[j]? = some (.ref C) → fns[i]? = some (dot c "__init__") → F[i]? = some sp → MakeOk P w K mg base k c C sp
def noRef (Gm : List D) : Bool := Gm.all fun d => match d with
  | .ref _ => false
  | _ => true
theorem noRef_ok {Gm : List D} (h : noRef Gm = true) {j : Nat} {C : Addr} (g : Gm[j]? = some (.ref C)) : False := by
  have := List.all_eq_true.mp h _ (List.mem_of_getElem? g)
  cases this
theorem ClsT.none {k : Nat} {fns glbs blts : List Str} {F : List DSp} {Gm : List D} (h : noRef Gm = true) : ClsT P w K mg base k fns glbs blts F Gm :=
  ⟨fun j C g => (noRef_ok h g).elim, fun j c C fl _ g => (noRef_ok h g).elim, fun i j c C m sp _ g => (noRef_ok h g).elim, fun i j c C sp _ g => (noRef_ok h g).elim⟩
theorem mk_fnX {x qual : Str} {params : Arguments} {body : List Stmt} {scope : Scope} {dvs0 : List V} {kws : List (Str × V)} {f : Addr} {fd : FuncData} {N ps fns glbs blts : List Str} {F : List DSp} {Gm : List D} {core : CB} {k : Nat} {sp : DSp}
    (Fu : FunD K x qual params body scope dvs0 kws f fd) (S : FnScope N ps scope) (hl : ∀ ds G Q xq, sp ds G Q xq → ds.length = ps.length)
    (hcal : ∀ (j : Nat) y s, fns[j]? = some y → F[j]? = some s → dotted y = false → DefOk P w K mg base k y s) (hct : ClsT P w K mg base k fns glbs blts F Gm) (hglb : Glbs K mg glbs Gm) (hblt : ∀ y, y ∈ blts → mg y = none) (hchk : chkB ⟨N, scope, none, fns, glbs, blts⟩ core body = true)
    (hsp : BodG F Gm core N.length sp) (hng : ("repr" : Str) ∉ blts := by decide +kernel) : FnOk P w K mg base (L2.CX P w) (k + 1) f fd ps (liftSp K sp) := by
  refine Fu.ok S (fun vs H Q E h => ?_) (fun cdv A outer s H vs Q E hr h => ?_)
  · obtain ⟨ds, G, Q', xq, r, _, q, _⟩ := h
    rw [r.length]
    exact hl _ _ _ _ q
  · obtain ⟨ds, G, Q0, xq0, r, sm, q0, hQ, hE⟩ := h
    obtain ⟨Q', xq, wQ, wX, q⟩ := hsp ds G Q0 xq0 q0
    refine ⟨_, pss_max, ?_⟩
    have fit : Fit F Gm ⟨N, scope, none, fns, glbs, blts⟩ (cxOf (L2.CX P w) P w K mg base N qual scope f cdv A outer s H E) := by
      refine ⟨rfl, S.nd, rfl, S.kind, rfl, fun _ => rfl, ?_, fun j y sp' h1 h2 h3 => ?_, hct.cls, hct.fld, fun i j c C m sp' h1 h2 h3 h4 => ?_, fun i j c C sp' h1 h2 h3 h4 => ?_, fun j y d h1 h2 => hglb j y d h1 h2, hblt, fun z => (hng z).elim⟩
      · have := hr.un
        show (A.deeper _).units + 65 < cLine
        omega
      · obtain ⟨f', fd', ps', sp0, dd, dvs, dus, F', r1, r2, r3, r4, r5, r6⟩ := hcal j y sp' h1 h2 h3
        exact ⟨k, f', fd', ps', sp0, dd, dvs, dus, F', hr, r1, r2, r3, r4, r5, r6⟩
      · obtain ⟨l, f', fd', ps', hl', F', r1, r2⟩ := hct.met i j c C m sp' h1 h2 h3 h4
        exact ⟨l, f', fd', ps', F', hr.mono hl', r1, r2⟩
      · obtain ⟨l, f', fd', ps', hl', F', r1, r2, r3⟩ := hct.mkr i j c C sp' h1 h2 h3 h4
        exact ⟨l, f', fd', ps', F', hr.mono hl', r1, r2, r3⟩
    have tk : TkS (cxOf (L2.CX P w) P w K mg base N qual scope f cdv A outer s H E) G H (fun z _ G' => xq z G') := fun z σ' ρ' cls d G' H' _ xr s' e' q' u s1 xe =>
      takes_of (X := cxOf (L2.CX P w) P w K mg base N qual scope f cdv A outer s H E) (E := E) rfl rfl rfl rfl u s1 (by
        obtain ⟨a, B, sI, pins, σ1, H1, cls1, d1, e, I, nb, up, sky, na, os, ag, rfl, rfl, rfl, rfl⟩ := xe
        obtain ⟨G7, d7, q7⟩ := wX _ _ q'
        exact ⟨a, B, sI, pins, σ1, H1, cls1, d1, e, I, nb, up, sky, na, os, ag, hE z _ _ G7 _ xr (d7.sim s') (e'.trans d7.ext) q7⟩)
    have := (okB fit (passes_of rfl) core body hchk).run { nx := fun _ G' => Q' .non G', rt := Q', ex := fun z _ G' => xq z G' } (startD N ds) G (L2.start N vs) H q (start_rep r) sm tk
    exact this.imp (fun σ1 H1 ⟨ρ1, G1, _, s1, e1, q1⟩ => by
        obtain ⟨G7, d7, q7⟩ := wQ _ _ q1
        exact hQ _ _ ⟨.non, G7, .non, d7.sim s1, e1.trans d7.ext, q7⟩) (fun v H1 ⟨d, G1, r1, s1, e1, q1⟩ => by
        obtain ⟨G7, d7, q7⟩ := wQ _ _ q1
        exact hQ _ _ ⟨d, G7, r1, d7.sim s1, e1.trans d7.ext, q7⟩) (fun _ _ ⟨_, _, _, _, _, z⟩ => z) (fun _ _ ⟨_, _, _, _, _, z⟩ => z)
theorem mk_fn {x qual : Str} {params : Arguments} {body : List Stmt} {scope : Scope} {dvs0 : List V} {kws : List (Str × V)} {f : Addr} {fd : FuncData} {N ps fns glbs blts : List Str} {F : List DSp} {Gm : List D} {core : CB} {k : Nat} {sp : DSp}
    (Fu : FunD K x qual params body scope dvs0 kws f fd) (S : FnScope N ps scope) (hl : ∀ ds G Q xq, sp ds G Q xq → ds.length = ps.length)
    (hcal : Cals P w K mg base k fns F) (hglb : Glbs K mg glbs Gm) (hblt : ∀ y, y ∈ blts → mg y = none) (hchk : chkB ⟨N, scope, none, fns, glbs, blts⟩ core body = true)
    (hsp : BodG F Gm core N.length sp) (hng : ("repr" : Str) ∉ blts := by decide +kernel) (hnr : noRef Gm = true := by rfl) : FnOk P w K mg base (L2.CX P w) (k + 1) f fd ps (liftSp K sp) :=
  mk_fnX Fu S hl (fun j y s a b _ => hcal j y s a b) (.none hnr) hglb hblt hchk hsp hng
theorem mk_def {x qual : Str} {params : Arguments} {body : List Stmt} {scope : Scope} {f : Addr} {fd : FuncData} {N ps fns glbs blts : List Str} {F : List DSp} {Gm : List D} {core : CB} {k : Nat} {sp : DSp}
    (Fu : FunD K x qual params body scope [] [] f fd) (g : mg x = some (.ref f)) (b : Binds K fd ps []) (S : FnScope N ps scope) (hl : ∀ ds G Q xq, sp ds G Q xq → ds.length = ps.length)
    (hcal : Cals P w K mg base k fns F) (hglb : Glbs K mg glbs Gm) (hblt : ∀ y, y ∈ blts → mg y = none) (hchk : chkB ⟨N, scope, none, fns, glbs, blts⟩ core body = true)
    (hsp : BodG F Gm core N.length sp) (hng : ("repr" : Str) ∉ blts := by decide +kernel) (hnr : noRef Gm = true := by rfl) : DefOk P w K mg base (k + 1) x sp :=
  ⟨f, fd, ps, sp, [], [], [], mk_fn Fu S hl hcal hglb hblt hchk hsp hng hnr, g, Fu.kp, b, .nil, fun _ => .nil, fun ds G Q xq q => by rw [List.append_nil]; exact q⟩
/-- a def whose body uses classes -/
theorem mk_defX {x qual : Str} {params : Arguments} {body : List Stmt} {scope : Scope} {f : Addr} {fd : FuncData} {N ps fns glbs blts : List Str} {F : List DSp} {Gm : List D} {core : CB} {k : Nat} {sp : DSp}
    (Fu : FunD K x qual params body scope [] [] f fd) (g : mg x = some (.ref f)) (b : Binds K fd ps []) (S : FnScope N ps scope) (hl : ∀ ds G Q xq, sp ds G Q xq → ds.length = ps.length)
    (hcal : ∀ (j : Nat) y s, fns[j]? = some y → F[j]? = some s → dotted y = false → DefOk P w K mg base k y s) (hct : ClsT P w K mg base k fns glbs blts F Gm) (hglb : Glbs K mg glbs Gm) (hblt : ∀ y, y ∈ blts → mg y = none) (hchk : chkB ⟨N, scope, none, fns, glbs, blts⟩ core body = true)
    (hsp : BodG F Gm core N.length sp) (hng : ("repr" : Str) ∉ blts := by decide +kernel) : DefOk P w K mg base (k + 1) x sp :=
  ⟨f, fd, ps, sp, [], [], [], mk_fnX Fu S hl hcal hct hglb hblt hchk hsp hng, g, Fu.kp, b, .nil, fun _ => .nil, fun ds G Q xq q => by rw [List.append_nil]; exact q⟩
theorem glb_ref {y : Str} {C : Addr} (h : mg y = some (.ref C)) : ∃ v u, mg y = some u ∧ RelV v u ∧ ∀ H, Rep K H v (.ref C) := ⟨.ref C, _, h, rfl, fun _ => .ref C⟩
/-- the law's own promise -/
def lawSp : DSp := fun ds G Q _ => ∃ ns : List Int, ds = [.sc (ns.map D.int)] ∧ ns.length ≤ 63 ∧ (∀ b, G b = none) ∧ ∀ G', Q (.bl true) G'
theorem law_start {H : Hp} {a : Addr} {ns : List Int} (hl : ns.length ≤ 63) (hO : L2.Only H) (hS : SqL K H a (ns.map V.int)) : liftSp K lawSp [.ref a] H (fun v _ => v = .bl true) fun _ _ _ => False := by
  have ro : RoL K H a (ns.map V.int) := by
    rcases hS with (h | ⟨o, h⟩) | h
    · rcases hO a with z | ⟨o, xs, z⟩
      · rw [h] at z; cases z
      · rw [h] at z; cases z
    · exact .inl ⟨o, h⟩
    · exact .inr h
  refine ⟨[.sc (ns.map D.int)], fun _ => none, fun d _ => d = .bl true, fun _ _ => False, .cons (.sc ro (reps_ints ns)) .nil, fun b c z => (by cases z), ⟨ns, rfl, hl, fun _ => rfl, fun _ => rfl⟩, fun v H' ⟨d, G', r, _, _, q⟩ => ?_, fun _ _ _ _ _ _ _ _ z => z⟩
  subst q
  cases r
  rfl
theorem cx_never {H : Hp} {s : Shared} {e : Value} {s' : Shared} (h : L2.CX P w [] H s (fun _ _ _ => False) e s') : False := by
  obtain ⟨_, _, _, _, _, _, _, _, _, _, _, _, z⟩ := h
  exact z
/-- a law's end; as HandS.HeadEnd has it, what is raised told by the world -/
theorem walk_end {l : PySem.W.OpenLaw} {n k : Nat} {q : Program} {loose : List Str} {XP : (Str → Option Value) → Heap → Prop} {YP : World → Heap → Prop} {d : DefRec} {x : Str}
    (hn : l.most = some n) (hn2 : n ≤ 63) (hdf : d.params.defaults = []) (hr : Room k callerA)
    (F : ∀ (w : World) (mg : Str → Option Value) (fa : Addr) (h : Heap), YP w h → h.Ns mainGlobals mg → mg d.name = some (.ref fa) →
      ∃ (K : PySem.W.Frag) (fd : FuncData), K.In h ∧ (∀ (s : Shared) (u : Value), BindsTo s fd ⟨[u], []⟩ [(x, u)]) ∧
        ∀ base : Heap, K.In base → base.Ns mainGlobals mg → FnOk l.prog w K mg base (L2.CX l.prog w) k fa fd [x] (liftSp K lawSp)) :
    PySem.W.WalkO q loose XP YP l.row.toRowW d [] (fun f vs => PySem.call f vs) := by
  refine Att.attach_call hn hdf fun w s0 s1 mg mb fa o pm cd doc a vs ns G Y ho hd hcd hmg hobj hints hlen hg => ?_
  obtain ⟨K, fd, KX, hb, hF⟩ := F w mg fa _ Y G.T.g hmg
  exact law_call KX G.T.g G.T.b G.T.builtins G.T.nolimit hg hobj hints (Nat.le_trans (Nat.le_trans hlen hn2) (by decide)) hr hF hb (fun H hO hS => law_start (Nat.le_trans hlen hn2) hO hS) fun H e s' => cx_never
end
end DL

namespace DL
open PySem PySem.Spec PyProof.Rows L2
/-! loops by an invariant -/
theorem for_invL {g : DG} {tb : DS} {keep : Sto → Prop} {De : DEnds} (I : Ev → Sto → Prop) : ∀ {items : List D} {ρ : Ev} {G : Sto}, I ρ G →
    (∀ x, x ∈ items → ∀ ρ G (N : NQ), I ρ G → (∀ ρ' G', I ρ' G' → N ρ' G') → keep G ∧ g x ρ G (fun ρ1 G1 => tb { De with nx := N, ct := N, bk := De.nx } ρ1 G1) De.ex) →
    (∀ ρ G, I ρ G → keep G ∧ De.nx ρ G) → forL g tb keep De items ρ G
  | [], ρ, G, h0, _, fin => fin ρ G h0
  | x :: xs, ρ, G, h0, step, fin => step x (by simp) ρ G _ h0 fun ρ' G' i => .of (for_invL I i (fun y hy => step y (by simp [hy])) fin)
/-- the same, by the turn -/
theorem for_ixL {g : DG} {tb : DS} {keep : Sto → Prop} {De : DEnds} (I : Nat → Ev → Sto → Prop) : ∀ {items : List D} {ρ : Ev} {G : Sto} (k : Nat), I k ρ G →
    (∀ i x, items[i]? = some x → ∀ ρ G (N : NQ), I (k + i) ρ G → (∀ ρ' G', I (k + i + 1) ρ' G' → N ρ' G') → keep G ∧ g x ρ G (fun ρ1 G1 => tb { De with nx := N, ct := N, bk := De.nx } ρ1 G1) De.ex) →
    (∀ ρ G, I (k + items.length) ρ G → keep G ∧ De.nx ρ G) → forL g tb keep De items ρ G
  | [], ρ, G, k, h0, _, fin => fin ρ G h0
  | x :: xs, ρ, G, k, h0, step, fin => step 0 x rfl ρ G _ h0 fun ρ' G' i => .of (for_ixL I (k + 1) i (fun j y hy ρ G N a b => step (j + 1) y (by simpa using hy) ρ G N (by rw [show k + (j + 1) = k + 1 + j by omega]; exact a) (fun ρ' G' z => b ρ' G' (by rw [show k + 1 + j + 1 = k + (j + 1) + 1 by omega]; exact z))) (fun ρ G z => fin ρ G (by rw [show k + (x :: xs).length = k + 1 + xs.length by rw [List.length_cons]; omega]; exact z)))
/-- by the turn, where a turn may let cells go -/
theorem for_atL {g : DG} {tb : DS} {keep : Sto → Prop} {De : DEnds} {items : List D} (I : Nat → Ev → Sto → Prop) {ρ : Ev} {G : Sto} (h0 : I 0 ρ G)
    (step : ∀ i x, items[i]? = some x → ∀ ρ G (N : NQ), I i ρ G → (∀ ρ' G' G'', Dn G' G'' → I (i + 1) ρ' G'' → N ρ' G') → keep G ∧ g x ρ G (fun ρ1 G1 => tb { De with nx := N, ct := N, bk := De.nx } ρ1 G1) De.ex)
    (fin : ∀ ρ G, I items.length ρ G → keep G ∧ De.nx ρ G) : forL g tb keep De items ρ G := by
  have main : ∀ (n : Nat) (k : Nat), n = items.length - k → k ≤ items.length → ∀ ρ G, I k ρ G → forL g tb keep De (items.drop k) ρ G := by
    intro n
    induction n with
    | zero =>
      intro k hn hk ρ G h
      obtain rfl : k = items.length := by omega
      rw [List.drop_length]
      exact fin ρ G h
    | succ n ih =>
      intro k hn hk ρ G h
      have hlt : k < items.length := by omega
      rw [List.drop_eq_getElem_cons hlt]
      exact step k _ (List.getElem?_eq_getElem hlt) ρ G _ h fun ρ' G' G'' d i => ⟨G'', d, ih (k + 1) (by omega) hlt ρ' G'' i⟩
  have := main _ 0 rfl (Nat.zero_le _) ρ G h0
  rwa [List.drop_zero] at this
/-- a comprehension by an invariant over the list so far -/
theorem lc_invL {g : DG} {tt : DT} {te : DE} {ρ0 : Ev} {keep : Sto → Prop} {fin : List D → Sto → Prop} (I : List D → Sto → Prop) : ∀ {items acc : List D} {G : Sto}, I acc G →
    (∀ x, x ∈ items → ∀ acc G (N : List D → Sto → Prop), I acc G → (∀ a G', I a G' → N a G') → keep G ∧ g x ρ0 G (fun ρ1 G1 => tt ρ1 G1 (fun b G2 => if b = true then te ρ1 G2 (fun d G3 => acc.length < sizeLine ∧ N (acc ++ [d]) G3) (fun _ _ => False) else N acc G2) (fun _ _ => False)) (fun _ _ _ => False)) →
    (∀ a G, I a G → keep G ∧ fin a G) → lcL g tt te ρ0 keep fin items acc G
  | [], acc, G, h0, _, f => f acc G h0
  | x :: xs, acc, G, h0, step, f => by
    exact step x (by simp) acc G (fun a G' => Less (lcL g tt te ρ0 keep fin xs a) G') h0 fun a G' i => .of (lc_invL I i (fun y hy => step y (by simp [hy])) f)
theorem lc_ixL {g : DG} {tt : DT} {te : DE} {ρ0 : Ev} {keep : Sto → Prop} {fin : List D → Sto → Prop} (I : Nat → List D → Sto → Prop) : ∀ {items acc : List D} {G : Sto} (k : Nat), I k acc G →
    (∀ i x, items[i]? = some x → ∀ acc G (N : List D → Sto → Prop), I (k + i) acc G → (∀ a G', I (k + i + 1) a G' → N a G') → keep G ∧ g x ρ0 G (fun ρ1 G1 => tt ρ1 G1 (fun b G2 => if b = true then te ρ1 G2 (fun d G3 => acc.length < sizeLine ∧ N (acc ++ [d]) G3) (fun _ _ => False) else N acc G2) (fun _ _ => False)) (fun _ _ _ => False)) →
    (∀ a G, I (k + items.length) a G → keep G ∧ fin a G) → lcL g tt te ρ0 keep fin items acc G
  | [], acc, G, k, h0, _, f => f acc G h0
  | x :: xs, acc, G, k, h0, step, f => by
    exact step 0 x rfl acc G (fun a G' => Less (lcL g tt te ρ0 keep fin xs a) G') h0 fun a G' i => .of (lc_ixL I (k + 1) i (fun j y hy acc G N a b => step (j + 1) y (by simpa using hy) acc G N (by rw [show k + (j + 1) = k + 1 + j by omega]; exact a) (fun ρ' G' z => b ρ' G' (by rw [show k + 1 + j + 1 = k + (j + 1) + 1 by omega]; exact z))) (fun ρ G z => f ρ G (by rw [show k + (x :: xs).length = k + 1 + xs.length by rw [List.length_cons]; omega]; exact z)))
theorem for_inv {g : DG} {tb : DS} {keep : Sto → Prop} {De : DEnds} (I : Ev → Sto → Prop) {items : List D} {ρ : Ev} {G : Sto} (h0 : I ρ G)
    (step : ∀ x, x ∈ items → ∀ ρ G (N : NQ), I ρ G → (∀ ρ' G', I ρ' G' → N ρ' G') → keep G ∧ g x ρ G (fun ρ1 G1 => tb { De with nx := N, ct := N, bk := De.nx } ρ1 G1) De.ex)
    (fin : ∀ ρ G, I ρ G → keep G ∧ De.nx ρ G) : forS g tb keep De items ρ G := by
  rw [forS_eq]
  exact for_invL I h0 step fin
theorem for_at {g : DG} {tb : DS} {keep : Sto → Prop} {De : DEnds} {items : List D} (I : Nat → Ev → Sto → Prop) {ρ : Ev} {G : Sto} (h0 : I 0 ρ G)
    (step : ∀ i x, items[i]? = some x → ∀ ρ G (N : NQ), I i ρ G → (∀ ρ' G' G'', Dn G' G'' → I (i + 1) ρ' G'' → N ρ' G') → keep G ∧ g x ρ G (fun ρ1 G1 => tb { De with nx := N, ct := N, bk := De.nx } ρ1 G1) De.ex)
    (fin : ∀ ρ G, I items.length ρ G → keep G ∧ De.nx ρ G) : forS g tb keep De items ρ G := by
  rw [forS_eq]
  exact for_atL I h0 step fin
theorem lc_ix {g : DG} {tt : DT} {te : DE} {ρ0 : Ev} {keep : Sto → Prop} {fin : List D → Sto → Prop} (I : Nat → List D → Sto → Prop) {items acc : List D} {G : Sto} (k : Nat) (h0 : I k acc G)
    (step : ∀ i x, items[i]? = some x → ∀ acc G (N : List D → Sto → Prop), I (k + i) acc G → (∀ a G', I (k + i + 1) a G' → N a G') → keep G ∧ g x ρ0 G (fun ρ1 G1 => tt ρ1 G1 (fun b G2 => if b = true then te ρ1 G2 (fun d G3 => acc.length < sizeLine ∧ N (acc ++ [d]) G3) (fun _ _ => False) else N acc G2) (fun _ _ => False)) (fun _ _ _ => False))
    (f : ∀ a G, I (k + items.length) a G → keep G ∧ fin a G) : lcS g tt te ρ0 keep fin items acc G := by
  rw [lcS_eq]
  exact lc_ixL I k h0 step f
/-- by the turn, where a turn may let cells go -/
theorem lc_at {g : DG} {tt : DT} {te : DE} {ρ0 : Ev} {keep : Sto → Prop} {fin : List D → Sto → Prop} (I : Nat → List D → Sto → Prop) {items : List D} {G : Sto} (h0 : I 0 [] G)
    (step : ∀ i x, items[i]? = some x → ∀ acc G (N : List D → Sto → Prop), I i acc G → (∀ a G' G'', Dn G' G'' → I (i + 1) a G'' → N a G') → keep G ∧ g x ρ0 G (fun ρ1 G1 => tt ρ1 G1 (fun b G2 => if b = true then te ρ1 G2 (fun d G3 => acc.length < sizeLine ∧ N (acc ++ [d]) G3) (fun _ _ => False) else N acc G2) (fun _ _ => False)) (fun _ _ _ => False))
    (f : ∀ a G, I items.length a G → keep G ∧ fin a G) : lcS g tt te ρ0 keep fin items [] G := by
  rw [lcS_eq]
  have main : ∀ (n : Nat) (k : Nat), n = items.length - k → k ≤ items.length → ∀ acc G, I k acc G → lcL g tt te ρ0 keep fin (items.drop k) acc G := by
    intro n
    induction n with
    | zero =>
      intro k hn hk acc G h
      obtain rfl : k = items.length := by omega
      rw [List.drop_length]
      exact f acc G h
    | succ n ih =>
      intro k hn hk acc G h
      have hlt : k < items.length := by omega
      rw [List.drop_eq_getElem_cons hlt]
      exact step k _ (List.getElem?_eq_getElem hlt) acc G (fun a G' => Less (lcL g tt te ρ0 keep fin (items.drop (k + 1)) a) G') h fun a G' G'' d i => ⟨G'', d, ih (k + 1) (by omega) hlt a G'' i⟩
  have := main _ 0 rfl (Nat.zero_le _) [] G h0
  rwa [List.drop_zero] at this
theorem mem_range {x : D} {lo : Int} {n : Nat} (h : x ∈ rangeD lo n) : ∃ i : Nat, i < n ∧ x = .int (lo + i) := by
  unfold rangeD at h
  obtain ⟨i, hi, e⟩ := List.mem_map.mp h
  exact ⟨i, List.mem_range.mp hi, e.symm⟩
theorem get_range {x : D} {lo : Int} {n i : Nat} (h : (rangeD lo n)[i]? = some x) : i < n ∧ x = .int (lo + i) := by
  unfold rangeD at h
  rw [List.getElem?_map] at h
  by_cases hi : i < n
  · rw [List.getElem?_range hi] at h
    exact ⟨hi, (Option.some.inj h).symm⟩
  · rw [List.getElem?_eq_none (by simpa using hi)] at h
    cases h
theorem divok {i m : Int} (h : 1 ≤ m) (h2 : m < 2 ^ 200) : CDiv i m ∨ CDivW i m := .inr (wide_div (b := 200) (by omega) (by omega) (by decide) (by decide))
theorem mulL {i j : Int} (h : -(2 ^ 64) < i) (h2 : i < 2 ^ 64) : CMul i j ∨ CMulW i j := .inl (.inl ⟨h, h2⟩)
theorem mulR {i j : Int} (h : -(2 ^ 64) < j) (h2 : j < 2 ^ 64) : CMul i j ∨ CMulW i j := .inl (.inr ⟨h, h2⟩)
theorem take_snoc {α : Type} {l : List α} {i : Nat} {x : α} (h : l[i]? = some x) : l.take i ++ [x] = l.take (i + 1) := by
  rw [List.take_add_one, h]
  rfl
end DL

namespace DL
open PySem PySem.Spec PyProof.Rows L2
/-! deeds -/
def doneF (d : Str) (a b : Int) : Int :=
  if (d == "add") = true then (a + b) % 65536 else if (d == "less") = true then (a - b) % 65536 else if (d == "times") = true then a * b % 65536
  else if (d == "both") = true then Builtin.bitAnd a b else if (d == "odd") = true then Builtin.bitXor a b else if (d == "same") = true then (if a == b then 1 else 0) else (if decide (a < b) then 1 else 0)
def Worth (a : Int) : Prop := 0 ≤ a ∧ a < 65536
def spDone : DSp := fun ds G Q _ => ∃ d a b, ds = [.str d, .int a, .int b] ∧ Worth a ∧ Worth b ∧ Q (.int (doneF d a b)) G
def doneC : CB := (.cons (.ifs (.cmp .Eq (.var 0) (.str "add")) (.cons (.ret (.bin .Mod (.bin .Add (.var 1) (.var 2)) (.glb 0))) .nil) .nil) (.cons (.ifs (.cmp .Eq (.var 0) (.str "less")) (.cons (.ret (.bin .Mod (.bin .Sub (.var 1) (.var 2)) (.glb 0))) .nil) .nil) (.cons (.ifs (.cmp .Eq (.var 0) (.str "times")) (.cons (.ret (.bin .Mod (.bin .Mult (.var 1) (.var 2)) (.glb 0))) .nil) .nil) (.cons (.ifs (.cmp .Eq (.var 0) (.str "both")) (.cons (.ret (.bin .BitAnd (.var 1) (.var 2))) .nil) .nil) (.cons (.ifs (.cmp .Eq (.var 0) (.str "odd")) (.cons (.ret (.bin .BitXor (.var 1) (.var 2))) .nil) .nil) (.cons (.ifs (.cmp .Eq (.var 0) (.str "same")) (.cons (.ret (.blt .int (.cons (.cmp .Eq (.var 1) (.var 2)) .nil))) .nil) .nil) (.cons (.ret (.blt .int (.cons (.cmp .Lt (.var 1) (.var 2)) .nil))) .nil)))))))
theorem body_done : Bod [] [.int 65536] doneC 3 spDone := by
  rintro ds G Q xq ⟨d, a, b, rfl, ha, hb, q⟩
  unfold doneF at q
  have M : (0 : Int) < 65536 := by decide
  refine ite2 (fun h => ?_) (fun h => ?_)
  · rw [if_pos h] at q; exact ⟨M, q⟩
  rw [if_neg h] at q
  refine ite2 (fun h => ?_) (fun h => ?_)
  · rw [if_pos h] at q; exact ⟨M, q⟩
  rw [if_neg h] at q
  refine ite2 (fun h => ?_) (fun h => ?_)
  · rw [if_pos h] at q; exact ⟨mulL (by have := ha.1; omega) (by have := ha.2; omega), M, q⟩
  rw [if_neg h] at q
  refine ite2 (fun h => ?_) (fun h => ?_)
  · rw [if_pos h] at q; exact q
  rw [if_neg h] at q
  refine ite2 (fun h => ?_) (fun h => ?_)
  · rw [if_pos h] at q; exact q
  rw [if_neg h] at q
  refine ite2 (fun h => ?_) (fun h => ?_)
  · rw [if_pos h] at q; exact q
  rw [if_neg h] at q
  exact q
theorem done_add (a b : Int) : doneF "add" a b = (a + b) % 65536 := rfl
theorem done_less (a b : Int) : doneF "less" a b = (a - b) % 65536 := rfl
theorem done_times (a b : Int) : doneF "times" a b = a * b % 65536 := rfl
theorem done_both (a b : Int) : doneF "both" a b = Builtin.bitAnd a b := rfl
theorem done_odd (a b : Int) : doneF "odd" a b = Builtin.bitXor a b := rfl
theorem done_same (a b : Int) : doneF "same" a b = (if a == b then 1 else 0) := rfl
theorem done_under (a b : Int) : doneF "under" a b = (if decide (a < b) then 1 else 0) := rfl
theorem bitAnd_nn {x y : Int} (hx : 0 ≤ x) (hy : 0 ≤ y) : Builtin.bitAnd x y = ((x.toNat &&& y.toNat : Nat) : Int) := by
  unfold Builtin.bitAnd
  rw [decide_eq_true hx, decide_eq_true hy]
theorem mod_worth (a : Int) : Worth (a % 65536) := ⟨Int.emod_nonneg _ (by decide), Int.emod_lt_of_pos _ (by decide)⟩
theorem both_worth {a b : Int} (ha : Worth a) (hb : Worth b) : Worth (Builtin.bitAnd a b) := by
  rw [bitAnd_nn ha.1 hb.1]
  refine ⟨Int.natCast_nonneg _, ?_⟩
  have h := Nat.and_lt_two_pow (x := a.toNat) (y := b.toNat) (n := 16) (by have := hb.1; have := hb.2; omega)
  have h2 : (2 : Nat) ^ 16 = 65536 := by decide
  omega
theorem odd_worth {a b : Int} (ha : Worth a) (hb : Worth b) : Worth (Builtin.bitXor a b) := by
  rw [Bits.bitXor_pp ha.1 hb.1]
  refine ⟨Int.natCast_nonneg _, ?_⟩
  have h := Nat.xor_lt_two_pow (x := a.toNat) (y := b.toNat) (n := 16) (by have := ha.1; have := ha.2; omega) (by have := hb.1; have := hb.2; omega)
  have h2 : (2 : Nat) ^ 16 = 65536 := by decide
  omega
theorem odd_both {a b : Int} (ha : Worth a) (hb : Worth b) : Builtin.bitXor a b + 2 * Builtin.bitAnd a b = a + b := by
  rw [Bits.bitXor_pp ha.1 hb.1, bitAnd_nn ha.1 hb.1]
  have h := Bits.nat_xor_add_and a.toNat b.toNat
  have := ha.1
  have := hb.1
  omega
theorem odd_self {a : Int} (ha : Worth a) : Builtin.bitXor a a = 0 := by
  rw [Bits.bitXor_pp ha.1 ha.1, Nat.xor_self]
  rfl
theorem both_self {a : Int} (ha : Worth a) : Builtin.bitAnd a a = a := by
  rw [bitAnd_nn ha.1 ha.1, Nat.and_self]
  have := ha.1
  omega
theorem odd_back {a b : Int} (ha : Worth a) (hb : Worth b) : Builtin.bitXor (Builtin.bitXor a b) b = a := by
  rw [Bits.bitXor_pp ha.1 hb.1, Bits.bitXor_pp (Int.natCast_nonneg _) hb.1, Int.toNat_natCast, Nat.xor_assoc, Nat.xor_self, Nat.xor_zero]
  have := ha.1
  omega
/-! a worth drawn -/
end DL

namespace DL
open PySem PySem.Spec PyProof.Rows L2
/-! the module's constants, read off the heap -/
mutual
def cstB (K : PySem.W.Frag) : D → Value → Bool
  | .non, u => He.relB .non u
  | .bl b, u => He.relB (.bl b) u
  | .int i, u => He.relB (.int i) u
  | .str x, u => He.relB (.str x) u
  | .tup ds, u => match u with
    | .ref a => (match K.lookup a with
      | some ⟨.type c, _, .seq its _, _⟩ => decide (c = "tuple") && (decide (its.size ≤ sizeLine) && cstsB K ds its.toList)
      | _ => false)
    | _ => false
  | _, _ => false
def cstsB (K : PySem.W.Frag) : List D → List Value → Bool
  | [], us => us.isEmpty
  | d :: ds, us => match us with
    | u :: us => cstB K d u && cstsB K ds us
    | [] => false
end
mutual
theorem cstB_ok {K : PySem.W.Frag} : ∀ {d : D} {u : Value}, cstB K d u = true → ∃ v, RelV v u ∧ ∀ H, Rep K H v d
  | .non, u, h => ⟨.non, He.relB_ok (by unfold cstB at h; exact h), fun _ => .non⟩
  | .bl b, u, h => ⟨.bl b, He.relB_ok (by unfold cstB at h; exact h), fun _ => .bl b⟩
  | .int b, u, h => ⟨.int b, He.relB_ok (by unfold cstB at h; exact h), fun _ => .int b⟩
  | .str b, u, h => ⟨.str b, He.relB_ok (by unfold cstB at h; exact h), fun _ => .str b⟩
  | .tup ds, u, h => by
    unfold cstB at h
    split at h
    · rename_i a
      split at h
      · rename_i c od its n osl q
        rw [Bool.and_eq_true, Bool.and_eq_true] at h
        obtain ⟨vs, h1, h2⟩ := cstsB_ok h.2.2
        exact ⟨.ref a, rfl, fun H => .tup (.inr ⟨_, its, n, q, congrArg Value.type (of_decide_eq_true h.1), rfl, of_decide_eq_true h.2.1, h1⟩) (h2 H)⟩
      · cases h
    · cases h
  | .ref _, u, h => by simp [cstB] at h
  | .ty _, u, h => by simp [cstB] at h
  | .sc _, u, h => by simp [cstB] at h
  | .rl _, u, h => by simp [cstB] at h
  | .rd _ _, u, h => by simp [cstB] at h
theorem cstsB_ok {K : PySem.W.Frag} : ∀ {ds : List D} {us : List Value}, cstsB K ds us = true → ∃ vs, Vals vs us ∧ ∀ H, Reps K H vs ds
  | [], us, h => by
    unfold cstsB at h
    rw [List.isEmpty_iff] at h
    subst h
    exact ⟨[], .nil, fun _ => .nil⟩
  | d :: ds, us, h => by
    unfold cstsB at h
    split at h
    · rw [Bool.and_eq_true] at h
      obtain ⟨v, a1, a2⟩ := cstB_ok h.1
      obtain ⟨vs, b1, b2⟩ := cstsB_ok h.2
      exact ⟨v :: vs, .cons a1 b1, fun H => .cons (a2 H) (b2 H)⟩
    · cases h
end
def cstOk (K : PySem.W.Frag) (p : Str × D) : Bool := match PySem.W.nsIn K mainGlobals p.1 with
  | some (some u) => cstB K p.2 u
  | _ => false
theorem cst_ok {K : PySem.W.Frag} {h : Heap} {mg : Str → Option Value} (X : K.In h) (G : h.Ns mainGlobals mg) {p : Str × D} (c : cstOk K p = true) : ∃ v u, mg p.1 = some u ∧ RelV v u ∧ ∀ H, Rep K H v p.2 := by
  unfold cstOk at c
  split at c
  · rename_i u e
    obtain ⟨v, a, b⟩ := cstB_ok c
    exact ⟨v, u, PySem.W.mg_of X G e, a, b⟩
  · cases c
/-- the head's facts: names, defs, constants -/
def obsC (fa : List He.Fa) (fn : List He.DefD) (cs : List (Str × D)) (K : PySem.W.Frag) : He.AlD := (((fa.all fun f => f.ok K) && fn.all fun d => d.ok K) && cs.all (cstOk K), fn.map fun d => He.fnW K d.at_)
def SaysC (fa : List He.Fa) (fn : List He.DefD) (cs : List (Str × D)) (K : PySem.W.Frag) : Prop := obsC fa fn cs K = He.valD fn
def obsCG (n : Nat) (fa : List He.Fa) (fn : List He.DefD) (cs : List (Str × D)) (g : Addr → Option Obj) : He.AlD := obsC fa fn cs (He.frG g (He.asD g n))
def hookC (n : Nat) (fa : List He.Fa) (fn : List He.DefD) (cs : List (Str × D)) : PySem.W.Hook where
  α := He.AlD
  obs := fun s => obsCG n fa fn cs s.heap.get?
  val := fun _ => He.valD fn
  says := fun _ h => ∃ K : PySem.W.Frag, K.In h ∧ SaysC fa fn cs K
  of := fun _ _ e => ⟨_, He.frG_in, e⟩
  keeps := fun _ _ _ ⟨K, hK, c⟩ k => ⟨K, PySem.W.Frag.In.keeps hK k, c⟩
theorem obsCG_eq {n : Nat} {fa : List He.Fa} {fn : List He.DefD} {cs : List (Str × D)} {g : Addr → Option Obj} {s : Shared} (h : ∀ a, g a = s.heap.get? a) : obsCG n fa fn cs g = (hookC n fa fn cs).obs s := by
  have e : g = s.heap.get? := funext h
  rw [e]
  rfl
section
variable {fa : List He.Fa} {fn : List He.DefD} {cs : List (Str × D)} {K : PySem.W.Frag}
theorem SaysC.says (c : SaysC fa fn cs K) : He.SaysD fa fn K := by
  have c1 := (He.ba (congrArg (fun z : He.AlD => z.1) c)).1
  have c2 : (fn.map fun d => He.fnW K d.at_) = fn.map He.DefD.val := congrArg (fun z : He.AlD => z.2) c
  exact Prod.ext c1 c2
theorem SaysC.cst (c : SaysC fa fn cs K) (i : Nat) {p : Str × D} (h : cs[i]? = some p) : cstOk K p = true := by
  have c1 := (He.ba (congrArg (fun z : He.AlD => z.1) c)).2
  exact List.all_eq_true.mp c1 p (List.mem_of_getElem? h)
end
theorem Cals.none {P : Program} {w : World} {K : PySem.W.Frag} {mg : Str → Option Value} {base : Heap} {k : Nat} {fns : List Str} : Cals P w K mg base k fns [] := fun j y s _ h => by simp at h
/-- every argument row that a promise takes has n members -/
def LenS (sp : DSp) (n : Nat) : Prop := ∀ ds G Q xq, sp ds G Q xq → ds.length = n
theorem iteN {c : Bool} {A B : Prop} (h : c = false) (b : B) : if c = true then A else B := by
  rw [h]
  exact iteF b
abbrev sp_p_done := spDone
theorem body_p_done : Bod [] [.int 65536] doneC 3 sp_p_done := body_done
theorem len_p_done : LenS sp_p_done 3 := by rintro ds G Q xq ⟨d, a, b, rfl, _⟩; rfl
/-- a thing is a whole number -/
def wholeD : D → Bool
  | .int _ => true
  | _ => false
abbrev sp_law := lawSp
theorem len_law : LenS sp_law 1 := by rintro ds G Q xq ⟨ns, rfl, _⟩; rfl
end DL

namespace DL
open PySem PySem.Spec PyProof.Rows L2
/-! a law whose body calls repr: its promise where nothing is being shown.
Like FnOk and the law's call of HandS, with the guards carried along. -/
section
variable {P : Program} {w : World} {K : PySem.W.Frag} {mg : Str → Option Value} {base : Heap}
structure GOk (P : Program) (w : World) (K : PySem.W.Frag) (mg : Str → Option Value) (base : Heap) (CX : CXT) (k : Nat) (f : Addr) (fd : FuncData) (ps : List Str) (sp : Sp) : Prop where
  run : ∀ (A : Around) (outer : List Env) (s : Shared) (H : Hp) (args : Args) (us : List Value) (vs : List V) (Q : VK) (E : XK), A.guards = some [] → Room k A → Env0 P w K mg base A outer s H → BindsTo s fd args (ps.zip us) → Vals vs us → sp vs H Q E →
    codeAny (model P w) A (.call (.ref f) args) (CR CX outer P w H s Q E) s
theorem mk_fnG {x qual : Str} {params : Arguments} {body : List Stmt} {scope : Scope} {dvs0 : List V} {kws : List (Str × V)} {f : Addr} {fd : FuncData} {N ps fns glbs blts : List Str} {F : List DSp} {Gm : List D} {core : CB} {k : Nat} {sp : DSp}
    (Fu : FunD K x qual params body scope dvs0 kws f fd) (S : FnScope N ps scope) (hl : ∀ ds G Q xq, sp ds G Q xq → ds.length = ps.length)
    (hcal : Cals P w K mg base k fns F) (hglb : Glbs K mg glbs Gm) (hblt : ∀ y, y ∈ blts → mg y = none) (hchk : chkB ⟨N, scope, none, fns, glbs, blts⟩ core body = true)
    (hsp : BodG F Gm core N.length sp) (hnr : noRef Gm = true := by rfl) : GOk P w K mg base (L2.CX P w) (k + 1) f fd ps (liftSp K sp) := by
  obtain ⟨oc, od, dV, kV, doc, pm, an, cdv, ct, osl, rfl, lk, hcd, _, _⟩ := Fu.ex
  have len : ∀ vs H Q E, liftSp K sp vs H Q E → vs.length = ps.length := fun vs H Q E h => by
    obtain ⟨ds, G, Q', xq, r, _, q, _⟩ := h
    rw [r.length]
    exact hl _ _ _ _ q
  refine ⟨fun A outer s H args us vs Q E hgd hr e0 hb r hsp0 => ?_⟩
  have hbody : ∃ t, PSs (cxOf (L2.CX P w) P w K mg base N qual scope f cdv A outer s H E) body t ∧ t { nx := fun _ H' => Q .non H', rt := Q } (L2.start N vs) H := by
    have hr1 := hr.deeper (envOfC qual scope s.heap.objs.size f cdv)
    obtain ⟨ds, G, Q0, xq0, r, sm, q0, hQ, hE⟩ := hsp0
    obtain ⟨Q', xq, wQ, wX, q⟩ := hsp ds G Q0 xq0 q0
    refine ⟨_, pss_max, ?_⟩
    have fit : Fit F Gm ⟨N, scope, none, fns, glbs, blts⟩ (cxOf (L2.CX P w) P w K mg base N qual scope f cdv A outer s H E) := by
      refine ⟨rfl, S.nd, rfl, S.kind, rfl, fun _ => rfl, ?_, fun j y sp' h1 h2 _ => ?_, fun j C g => (noRef_ok hnr g).elim, fun j c C fl _ g => (noRef_ok hnr g).elim, fun i j c C m sp _ g => (noRef_ok hnr g).elim, fun i j c C sp _ g => (noRef_ok hnr g).elim, fun j y d h1 h2 => hglb j y d h1 h2, hblt, fun _ => hgd⟩
      · have := hr1.un
        show (A.deeper _).units + 65 < cLine
        omega
      · obtain ⟨f', fd', ps', sp0, dd, dvs, dus, F', r1, r2, r3, r4, r5, r6⟩ := hcal j y sp' h1 h2
        exact ⟨k, f', fd', ps', sp0, dd, dvs, dus, F', hr1, r1, r2, r3, r4, r5, r6⟩
    have tk : TkS (cxOf (L2.CX P w) P w K mg base N qual scope f cdv A outer s H E) G H (fun z _ G' => xq z G') := fun z σ' ρ' cls d G' H' _ xr s' e' q' u s1 xe =>
      takes_of (X := cxOf (L2.CX P w) P w K mg base N qual scope f cdv A outer s H E) (E := E) rfl rfl rfl rfl u s1 (by
        obtain ⟨a, B, sI, pins, σ1, H1, cls1, d1, e, I, nb, up, sky, na, os, ag, rfl, rfl, rfl, rfl⟩ := xe
        obtain ⟨G7, d7, q7⟩ := wX _ _ q'
        exact ⟨a, B, sI, pins, σ1, H1, cls1, d1, e, I, nb, up, sky, na, os, ag, hE z _ _ G7 _ xr (d7.sim s') (e'.trans d7.ext) q7⟩)
    have := (okB fit (passes_of rfl) core body hchk).run { nx := fun _ G' => Q' .non G', rt := Q', ex := fun z _ G' => xq z G' } (startD N ds) G (L2.start N vs) H q (start_rep r) sm tk
    exact this.imp (fun σ1 H1 ⟨ρ1, G1, _, s1, e1, q1⟩ => by
        obtain ⟨G7, d7, q7⟩ := wQ _ _ q1
        exact hQ _ _ ⟨.non, G7, .non, d7.sim s1, e1.trans d7.ext, q7⟩) (fun v H1 ⟨d, G1, r1, s1, e1, q1⟩ => by
        obtain ⟨G7, d7, q7⟩ := wQ _ _ q1
        exact hQ _ _ ⟨d, G7, r1, d7.sim s1, e1.trans d7.ext, q7⟩) (fun _ _ ⟨_, _, _, _, _, z⟩ => z) (fun _ _ ⟨_, _, _, _, _, z⟩ => z)
  obtain ⟨t, ht, hq⟩ := hbody
  have keep0 := fun b o e => (e0.bs b o e).1
  refine codeAny_call_function hr.depth (e0.mod.kin.keeps keep0 _ _ lk) rfl S.co S.gen rfl (PySem.W.codeRec_of (e0.mod.kin.keeps keep0) hcd) (hb _ _ _ _ (wpAny_newFunctionEnv_cells S.kind (fun y hy => ?_) fun env he s1 x => ?_))
  · rcases S.par y.1 (List.of_mem_zip hy).1 with q | q
    · exact .inl q
    · exact .inr ⟨q, PySem.W.cellsFrom_some _ _ _ (.inl q)⟩
  · subst he
    refine ⟨(e0.mod.nolimit.keeps keep0).keeps x.toInCall.keep, codeAny_func (wpAny_mono (ht.run [] s1 (L2.start N vs) H _ (inv_start S hr.hd e0 (len _ _ _ _ hsp0) r x) hq) (fun fl s' hs => ?_) fun e s' hs => hs)⟩
    cases fl with
    | ret u =>
      obtain ⟨v, σ', H', J, rv, q⟩ := hs
      exact ⟨v, H', J.os, J.bare, J.base, J.hok, rv, q⟩
    | next =>
      obtain ⟨σ', H', J, q⟩ := hs
      exact ⟨V.non, H', J.os, J.bare, J.base, J.hok, rfl, q⟩
    | brk =>
      obtain ⟨_, _, _, q⟩ := hs
      exact q.elim
    | cont =>
      obtain ⟨_, _, _, q⟩ := hs
      exact q.elim
/-- the script's cell -/
def scH (K : PySem.W.Frag) (a : Addr) (vs : List Value) (ns : List Int) : Hp := fun b => if b = a then (match K.lookup a with
  | none => some (.frz { cls := .type "list", data := .seq vs.toArray } (.lst (ns.map V.int)))
  | some _ => none) else none
theorem scH_some {a b : Addr} {vs : List Value} {ns : List Int} {u : HO} (h : scH K a vs ns b = some u) : b = a ∧ K.lookup a = none ∧ u = .frz { cls := .type "list", data := .seq vs.toArray } (.lst (ns.map V.int)) := by
  unfold scH at h
  split at h
  · rename_i e
    split at h
    · rename_i l
      exact ⟨e, l, (Option.some.inj h).symm⟩
    · cases h
  · cases h
theorem law_callG {CX : CXT} {mb : Str → Option Value} {k : Nat} {fa a : Addr} {fd : FuncData} {x : Str} {sp : Sp} {s1 : Shared} {vs : List Value} {ns : List Int}
    (KX : K.In s1.heap) (hns : s1.heap.Ns mainGlobals mg) (hb : s1.heap.Ns builtinsNs mb) (hbb : ∀ x : Str, x ≠ "__name__" → mb x = bootBuiltins x) (hlim : s1.heap.NoLimit) (hg : s1.gens = #[])
    (ha : s1.heap.get? a = some { cls := .type "list", data := .seq vs.toArray }) (hi : IntsAre vs ns) (hl : ns.length ≤ sizeLine) (hr : Room k callerA)
    (F : ∀ base : Heap, K.In base → base.Ns mainGlobals mg → GOk P w K mg base CX k fa fd [x] sp) (hbind : ∀ (s : Shared) (u : Value), BindsTo s fd ⟨[u], []⟩ [(x, u)])
    (hsp : ∀ H : Hp, L2.Only H → SqL K H a (ns.map V.int) → sp [.ref a] H (fun v _ => v = .bl true) fun _ _ _ => False)
    (hCX : ∀ H e s', CX [] H s1 (fun _ _ _ => False) e s' → False) :
    codeAny (model P w) callerA (.call (.ref fa) ⟨[.ref a], []⟩) (fun r s' => r = .ok (.ret (.bool true)) ∧ OldK s1.heap s'.heap ∧ s'.os = s1.os ∧ AllBare s'.gens) s1 := by
  have rv := vals_ints hi
  have hO : L2.Only (scH K a vs ns) := fun b => by
    cases q : scH K a vs ns b with
    | none => exact .inl rfl
    | some u => exact .inr ⟨_, _, congrArg some (scH_some q).2.2⟩
  have hS : SqL K (scH K a vs ns) a (ns.map V.int) := by
    cases hk : K.lookup a with
    | none => exact .inl (.inr ⟨{ cls := .type "list", data := .seq vs.toArray }, by unfold scH; rw [if_pos rfl, hk]⟩)
    | some o =>
      have e := KX a o hk
      rw [ha] at e
      cases e
      exact .inr ⟨_, vs.toArray, _, hk, rfl, rfl, rfl, by rw [List.size_toArray, hi.length]; exact hl, by simpa using rv⟩
  have hok : HOk P w (scH K a vs ns) s1.heap := fun b u q => by
    obtain ⟨rfl, _, rfl⟩ := scH_some q
    exact ⟨ha, by rw [List.length_map]; exact hl, vs, _, rv, ha⟩
  have up : ∀ {b : Addr} {o : Obj}, s1.heap.get? b = some o → (b = a → K.lookup a = none → False) → (hidT s1.heap (scH K a vs ns)).get? b = some o := fun {b o} e n => hidT_get e (by
    cases q : scH K a vs ns b with
    | none => rfl
    | some u => exact (n (scH_some q).1 (scH_some q).2.1).elim)
  have nsK : ∀ {b : Addr} {m : Str → Option Value}, s1.heap.Ns b m → (hidT s1.heap (scH K a vs ns)).Ns b m := fun {b m} ⟨o, es, ep, e, d, r⟩ => ⟨o, es, ep, up e (fun z _ => by
    subst z
    rw [ha] at e
    cases e
    cases (show Data.seq vs.toArray _ = Data.dict es ep from d)), d, r⟩
  have hKb : K.In (hidT s1.heap (scH K a vs ns)) := fun b o e => up (KX b o e) fun z n => by
    subst z
    rw [n] at e
    cases e
  have e0 : Env0 P w K mg (hidT s1.heap (scH K a vs ns)) callerA [] s1 (scH K a vs ns) :=
    ⟨rfl, ⟨hKb, nsK hns, ⟨mb, nsK hb, hbb⟩, let ⟨mc, h1, h2⟩ := hlim; ⟨mc, nsK h1, h2⟩⟩, fun b o e => of_hidT e, Nat.le_of_eq (hidT_size _ _), trivial, fun b hb => absurd (show b ∈ ([] : List Addr) from hb) (by simp), hok, .of_eq hg⟩
  refine codeAny_mono ((F _ hKb (nsK hns)).run callerA [] s1 _ ⟨[.ref a], []⟩ [.ref a] [.ref a] _ _ rfl hr e0 (hbind s1 (.ref a)) (.cons rfl .nil) (hsp _ hO hS)) fun r s' h => ?_
  cases r with
  | error e => exact (hCX _ e s' h).elim
  | ok fl =>
    cases fl with
    | next => exact False.elim h
    | brk => exact False.elim h
    | cont => exact False.elim h
    | ret u =>
      obtain ⟨v, H', os, bare, un, hok', r', q⟩ := h
      obtain rfl : v = .bl true := q
      obtain rfl : u = Value.bool true := r'
      refine ⟨rfl, OldK.of_keep fun b o e => ?_, os, bare⟩
      cases q : scH K a vs ns b with
      | none => exact un.keep b o e q (by intro z; exact absurd (show b ∈ ([] : List Addr) from z) (by simp)) (by simp)
      | some u =>
        obtain ⟨_, _, rfl⟩ := scH_some q
        have e1 := (hok b _ q).1
        have e2 := (hok' b _ (un.frzs b _ _ q)).1
        rw [e] at e1
        cases e1
        exact e2
theorem walk_endG {l : PySem.W.OpenLaw} {n k : Nat} {q : Program} {loose : List Str} {XP : (Str → Option Value) → Heap → Prop} {YP : World → Heap → Prop} {d : DefRec} {x : Str}
    (hn : l.most = some n) (hn2 : n ≤ 63) (hdf : d.params.defaults = []) (hr : Room k callerA)
    (F : ∀ (w : World) (mg : Str → Option Value) (fa : Addr) (h : Heap), YP w h → h.Ns mainGlobals mg → mg d.name = some (.ref fa) →
      ∃ (K : PySem.W.Frag) (fd : FuncData), K.In h ∧ (∀ (s : Shared) (u : Value), BindsTo s fd ⟨[u], []⟩ [(x, u)]) ∧
        ∀ base : Heap, K.In base → base.Ns mainGlobals mg → GOk l.prog w K mg base (L2.CX l.prog w) k fa fd [x] (liftSp K lawSp)) :
    PySem.W.WalkO q loose XP YP l.row.toRowW d [] (fun f vs => PySem.call f vs) := by
  refine Att.attach_call hn hdf fun w s0 s1 mg mb fa o pm cd doc a vs ns G Y ho hd hcd hmg hobj hints hlen hg => ?_
  obtain ⟨K, fd, KX, hb, hF⟩ := F w mg fa _ Y G.T.g hmg
  exact law_callG KX G.T.g G.T.b G.T.builtins G.T.nolimit hg hobj hints (Nat.le_trans (Nat.le_trans hlen hn2) (by decide)) hr hF hb (fun H hO hS => law_start (Nat.le_trans hlen hn2) hO hS) fun H e s' => cx_never
end
end DL

namespace DL
open PySem PySem.Spec PyProof.Rows L2
/-! the tables of a def that uses classes -/
def strip : List Nat → List Nat → Option (List Nat)
  | [], y => some y
  | _ :: _, [] => none
  | a :: p, b :: y => if a = b then strip p y else none
theorem strip_app : ∀ (p y : List Nat), strip p (p ++ y) = some y
  | [], y => rfl
  | a :: p, y => by
    show (if a = a then strip p (p ++ y) else none) = _
    rw [if_pos rfl]
    exact strip_app p y
def afterDot (c y : Str) : Option Str := (strip (c ++ ".").cps.toList y.cps.toList).map fun l => ⟨l.toArray⟩
theorem afterDot_dot (c m : Str) : afterDot c (dot c m) = some m := by
  unfold afterDot dot
  have e : (c ++ "." ++ m : Str).cps.toList = (c ++ "." : Str).cps.toList ++ m.cps.toList := Array.toList_append
  rw [e, strip_app]
  rfl
section
variable {P : Program} {w : World} {K : PySem.W.Frag} {mg : Str → Option Value} {base : Heap} {k : Nat}
theorem MethOk.mono {j : Nat} {C : Addr} {m : Str} {sp : DSp} (h : MethOk P w K mg base j C m sp) (le : j ≤ k) : MethOk P w K mg base k C m sp := by
  obtain ⟨i, f, fd, ps, hi, r⟩ := h
  exact ⟨i, f, fd, ps, Nat.le_trans hi le, r⟩
theorem MakeOk.mono {j : Nat} {C : Addr} {x : Str} {sp : DSp} (h : MakeOk P w K mg base j x C sp) (le : j ≤ k) : MakeOk P w K mg base k x C sp := by
  obtain ⟨i, f, fd, ps, hi, r⟩ := h
  exact ⟨i, f, fd, ps, Nat.le_trans hi le, r⟩
/-- callees, methods left out -/
def CalX (P : Program) (w : World) (K : PySem.W.Frag) (mg : Str → Option Value) (base : Heap) (k : Nat) (fns : List Str) (F : List DSp) : Prop := ∀ (j : Nat) y s, fns[j]? = some y → F[j]? = some s → dotted y = false → DefOk P w K mg base k y s
theorem CalX.nil : CalX P w K mg base k [] [] := fun j y s h => by simp at h
theorem CalX.cons {y : Str} {s : DSp} {fns : List Str} {F : List DSp} (d : DefOk P w K mg base k y s) (r : CalX P w K mg base k fns F) : CalX P w K mg base k (y :: fns) (s :: F) := fun j y' s' h1 h2 h3 => by
  cases j with
  | zero =>
    have e1 : y = y' := Option.some.inj h1
    have e2 : s = s' := Option.some.inj h2
    subst e1 e2
    exact d
  | succ j => exact r j y' s' (by simpa using h1) (by simpa using h2) h3
theorem CalX.skip {y : Str} {s : DSp} {fns : List Str} {F : List DSp} (d : dotted y = true) (r : CalX P w K mg base k fns F) : CalX P w K mg base k (y :: fns) (s :: F) := fun j y' s' h1 h2 h3 => by
  cases j with
  | zero =>
    have e1 : y = y' := Option.some.inj h1
    subst e1
    rw [d] at h3
    cases h3
  | succ j => exact r j y' s' (by simpa using h1) (by simpa using h2) h3
/-- the fields -/
def FldX (K : PySem.W.Frag) (c : Str) (C : Addr) (blts : List Str) : Prop := ∀ y ∈ blts, ∀ f, afterDot c y = some f → NoAttr K C f
theorem FldX.nil {c : Str} {C : Addr} : FldX K c C [] := fun y h => (List.not_mem_nil h).elim
theorem FldX.no {c y : Str} {C : Addr} {blts : List Str} (e : afterDot c y = none) (r : FldX K c C blts) : FldX K c C (y :: blts) := fun z hz f h => by
  rcases List.mem_cons.mp hz with rfl | hz
  · rw [e] at h; cases h
  · exact r z hz f h
theorem FldX.yes {c y f0 : Str} {C : Addr} {blts : List Str} (e : afterDot c y = some f0) (n : NoAttr K C f0) (r : FldX K c C blts) : FldX K c C (y :: blts) := fun z hz f h => by
  rcases List.mem_cons.mp hz with rfl | hz
  · rw [e] at h; cases h; exact n
  · exact r z hz f h
/-- the methods -/
def MetX (P : Program) (w : World) (K : PySem.W.Frag) (mg : Str → Option Value) (base : Heap) (k : Nat) (c : Str) (C : Addr) (fns : List Str) (F : List DSp) : Prop :=
  ∀ (i : Nat) y sp, fns[i]? = some y → F[i]? = some sp → ∀ m, afterDot c y = some m → MethOk P w K mg base k C m sp ∧ (m = "__init__" → MakeOk P w K mg base k c C sp)
theorem MetX.nil {c : Str} {C : Addr} : MetX P w K mg base k c C [] [] := fun i y sp h => by simp at h
theorem MetX.no {c y : Str} {C : Addr} {sp : DSp} {fns : List Str} {F : List DSp} (e : afterDot c y = none) (r : MetX P w K mg base k c C fns F) : MetX P w K mg base k c C (y :: fns) (sp :: F) := fun i y' sp' h1 h2 m h => by
  cases i with
  | zero =>
    have e1 : y = y' := Option.some.inj h1
    subst e1
    rw [e] at h
    cases h
  | succ i => exact r i y' sp' (by simpa using h1) (by simpa using h2) m h
theorem MetX.yes {c y m0 : Str} {C : Addr} {sp : DSp} {fns : List Str} {F : List DSp} (e : afterDot c y = some m0) (o : MethOk P w K mg base k C m0 sp) (o2 : m0 = "__init__" → MakeOk P w K mg base k c C sp) (r : MetX P w K mg base k c C fns F) : MetX P w K mg base k c C (y :: fns) (sp :: F) := fun i y' sp' h1 h2 m h => by
  cases i with
  | zero =>
    have e1 : y = y' := Option.some.inj h1
    have e2 : sp = sp' := Option.some.inj h2
    subst e1 e2
    rw [e] at h
    cases h
    exact ⟨o, o2⟩
  | succ i => exact r i y' sp' (by simpa using h1) (by simpa using h2) m h
/-- the classes -/
def ClsX (P : Program) (w : World) (K : PySem.W.Frag) (mg : Str → Option Value) (base : Heap) (k : Nat) (fns blts : List Str) (F : List DSp) (glbs : List Str) (Gm : List D) : Prop :=
  ∀ (j : Nat) C, Gm[j]? = some (.ref C) → Cls K C ∧ ∀ c, glbs[j]? = some c → FldX K c C blts ∧ MetX P w K mg base k c C fns F
theorem ClsX.nil {fns blts : List Str} {F : List DSp} : ClsX P w K mg base k fns blts F [] [] := fun j C h => by simp at h
theorem ClsX.no {fns blts : List Str} {F : List DSp} {y : Str} {d : D} {glbs : List Str} {Gm : List D} (e : noRef [d] = true) (r : ClsX P w K mg base k fns blts F glbs Gm) : ClsX P w K mg base k fns blts F (y :: glbs) (d :: Gm) := fun j C h => by
  cases j with
  | zero =>
    have e1 : d = .ref C := Option.some.inj h
    subst e1
    cases e
  | succ j =>
    obtain ⟨a, b⟩ := r j C (by simpa using h)
    exact ⟨a, fun c hc => b c (by simpa using hc)⟩
theorem ClsX.yes {fns blts : List Str} {F : List DSp} {y : Str} {C0 : Addr} {glbs : List Str} {Gm : List D} (h0 : Cls K C0) (f : FldX K y C0 blts) (m : MetX P w K mg base k y C0 fns F) (r : ClsX P w K mg base k fns blts F glbs Gm) : ClsX P w K mg base k fns blts F (y :: glbs) (.ref C0 :: Gm) := fun j C h => by
  cases j with
  | zero =>
    have e1 : (D.ref C0) = .ref C := Option.some.inj h
    cases e1
    refine ⟨h0, fun c hc => ?_⟩
    have e2 : y = c := Option.some.inj hc
    subst e2
    exact ⟨f, m⟩
  | succ j =>
    obtain ⟨a, b⟩ := r j C (by simpa using h)
    exact ⟨a, fun c hc => b c (by simpa using hc)⟩
theorem ClsX.t {fns blts : List Str} {F : List DSp} {glbs : List Str} {Gm : List D} (h : ClsX P w K mg base k fns blts F glbs Gm) : ClsT P w K mg base k fns glbs blts F Gm :=
  ⟨fun j C g => (h j C g).1, fun j c C fl hc g hb => ((h j C g).2 c hc).1 _ hb _ (afterDot_dot c fl), fun i j c C m sp hc g hf hF => (((h j C g).2 c hc).2 i _ sp hf hF _ (afterDot_dot c m)).1,
    fun i j c C sp hc g hf hF => (((h j C g).2 c hc).2 i _ sp hf hF _ (afterDot_dot c "__init__")).2 rfl⟩
end
end DL

namespace DL
open PySem PySem.Spec PyProof.Rows L2
/-- _law_pen_by: slots 0 _law_script 1 _law_cell; calls ; names  -/
def penC : CB := (.cons (.ret (.lst (.cons (.lcv [("_law_cell", 1)] (.name 1) (.it (.slv (.var 0) .no (.part (.int 63)))) .no (.var 1)) (.cons (.int 0) (.cons (.int 0) .nil))))) .nil)
/-- _law_draw: slots 0 _law_pen 1 _law_many 2 _law_at 3 _law_cell 4 _law_number 5 _law_digit; calls ; names  -/
def drawAC : CB := (.cons (.ifs (.cmp .Gt (.ix (.var 0) (.int 2)) (.int 0)) (.cons (.asg (.name 5) (.bin .Mod (.ix (.var 0) (.int 2)) (.var 1))) (.cons (.asg (.sub (.var 0) (.int 2)) (.bin .FloorDiv (.ix (.var 0) (.int 2)) (.var 1))) (.cons (.ret (.var 5)) .nil))) .nil) (.cons (.asg (.name 2) (.ix (.var 0) (.int 1))) (.cons (.asg (.sub (.var 0) (.int 1)) (.addv (.var 2) (.int 1))) (.cons (.asg (.name 3) (.int 11)) (.cons (.ifs (.cmp .Gt (.blt .len (.cons (.ix (.var 0) (.int 0)) .nil)) (.int 0)) (.cons (.asg (.name 3) (.ix (.ix (.var 0) (.int 0)) (.bin .Mod (.var 2) (.blt .len (.cons (.ix (.var 0) (.int 0)) .nil))))) .nil) .nil) (.cons (.ifs (.and (.cmp .Lt (.var 2) (.blt .len (.cons (.ix (.var 0) (.int 0)) .nil))) (.cmp .GtE (.blt .abs (.cons (.var 3) .nil)) (.bin .Pow (.int 10) (.int 18)))) (.cons (.asg (.sub (.var 0) (.int 2)) (.bin .FloorDiv (.blt .abs (.cons (.var 3) .nil)) (.var 1))) (.cons (.ret (.bin .Mod (.blt .abs (.cons (.var 3) .nil)) (.var 1))) .nil)) .nil) (.cons (.asg (.name 4) (.bin .Mod (.bin .Mult (.addv (.addv (.bin .Mod (.var 3) (.int 2147483647)) (.bin .Mult (.int 69621) (.var 2))) (.int 13)) (.int 48271)) (.int 2147483629))) (.cons (.asg (.name 4) (.bin .Mod (.bin .Mult (.bin .Mod (.bin .Mult (.var 4) (.var 4)) (.int 2147483587)) (.addv (.addv (.bin .Mod (.var 4) (.int 65521)) (.bin .Mult (.int 7) (.var 2))) (.int 1))) (.int 2147483563))) (.cons (.ret (.bin .Mod (.bin .FloorDiv (.var 4) (.int 32)) (.var 1))) .nil)))))))))
/-- _law_worth: slots 0 _law_pen 1 _law_way; calls _law_draw; names  -/
def worthC : CB := (.cons (.asg (.name 1) (.fn 0 (.cons (.var 0) (.cons (.int 6) .nil)))) (.cons (.ifs (.cmp .Lt (.var 1) (.int 3)) (.cons (.ret (.ix (.lstv (.cons (.int 0) (.cons (.int 1) (.cons (.int 65535) .nil)))) (.var 1))) .nil) .nil) (.cons (.ifs (.cmp .Eq (.var 1) (.int 3)) (.cons (.ret (.fn 0 (.cons (.var 0) (.cons (.int 9) .nil)))) .nil) .nil) (.cons (.ret (.fn 0 (.cons (.var 0) (.cons (.int 65536) .nil)))) .nil))))
/-- _law_draw: slots 0 _law_pen_here 1 _law_many 2 _law_at 3 _law_cell 4 _law_number 5 _law_digit; calls ; names  -/
def drawBC : CB := (.cons (.ifs (.cmp .Gt (.ix (.var 0) (.int 2)) (.int 0)) (.cons (.asg (.name 5) (.bin .Mod (.ix (.var 0) (.int 2)) (.var 1))) (.cons (.asg (.sub (.var 0) (.int 2)) (.bin .FloorDiv (.ix (.var 0) (.int 2)) (.var 1))) (.cons (.ret (.var 5)) .nil))) .nil) (.cons (.asg (.name 2) (.ix (.var 0) (.int 1))) (.cons (.asg (.sub (.var 0) (.int 1)) (.addv (.var 2) (.int 1))) (.cons (.asg (.name 3) (.int 23)) (.cons (.ifs (.cmp .Gt (.blt .len (.cons (.ix (.var 0) (.int 0)) .nil)) (.int 0)) (.cons (.asg (.name 3) (.ix (.ix (.var 0) (.int 0)) (.bin .Mod (.var 2) (.blt .len (.cons (.ix (.var 0) (.int 0)) .nil))))) .nil) .nil) (.cons (.ifs (.and (.cmp .Lt (.var 2) (.blt .len (.cons (.ix (.var 0) (.int 0)) .nil))) (.cmp .GtE (.blt .abs (.cons (.var 3) .nil)) (.bin .Pow (.int 10) (.int 18)))) (.cons (.asg (.sub (.var 0) (.int 2)) (.bin .FloorDiv (.blt .abs (.cons (.var 3) .nil)) (.var 1))) (.cons (.ret (.bin .Mod (.blt .abs (.cons (.var 3) .nil)) (.var 1))) .nil)) .nil) (.cons (.asg (.name 4) (.bin .Mod (.bin .Mult (.addv (.addv (.bin .Mod (.var 3) (.int 2147483629)) (.bin .Mult (.int 48271) (.var 2))) (.int 29)) (.int 69621)) (.int 2147483587))) (.cons (.asg (.name 4) (.bin .Mod (.addv (.addv (.bin .Mult (.var 4) (.var 4)) (.bin .Mult (.int 16807) (.var 4))) (.bin .Mult (.var 2) (.var 2))) (.int 2147483563))) (.cons (.ret (.bin .Mod (.bin .FloorDiv (.bin .Mod (.bin .Mult (.var 4) (.int 40692)) (.int 2147483399)) (.int 64)) (.var 1))) .nil)))))))))
end DL

namespace DL
open PySem PySem.Spec PyProof.Rows L2
/-! loops whose ends are told by their names alone -/
theorem for_op {g : DG} {tb : DS} {keep : Sto → Prop} {De : DEnds} {items : List D} (I : Nat → Ev → Sto → Prop) {ρ : Ev} {G : Sto} (h0 : I 0 ρ G)
    (step : ∀ (i : Nat) (x : D), items[i]? = some x → ∀ (ρ : Ev) (G : Sto) (E : DEnds), I i ρ G → (∀ ρ' G' G'', Dn G' G'' → I (i + 1) ρ' G'' → E.nx ρ' G') → (∀ ρ' G' G'', Dn G' G'' → I (i + 1) ρ' G'' → E.ct ρ' G') → (∀ d G', De.rt d G' → E.rt d G') → (∀ ρ' G', De.nx ρ' G' → E.bk ρ' G') → (∀ z ρ' G', De.ex z ρ' G' → E.ex z ρ' G') →
      keep G ∧ g x ρ G (fun ρ1 G1 => tb E ρ1 G1) De.ex)
    (fin : ∀ ρ G, I items.length ρ G → keep G ∧ De.nx ρ G) : forS g tb keep De items ρ G :=
  for_at I h0 (fun i x hx ρ G N hI hN => step i x hx ρ G { De with nx := N, ct := N, bk := De.nx } hI hN hN (fun _ _ z => z) (fun _ _ z => z) (fun _ _ _ z => z)) fin
theorem while_op {tc : DT} {tb : DS} {De : DEnds} (W : Nat → Ev → Sto → Prop) {ρ : Ev} {G : Sto} {m0 : Nat} (h0 : W m0 ρ G)
    (turn : ∀ (m : Nat) (ρ : Ev) (G : Sto) (E : DEnds), W m ρ G → (∀ m' ρ' G' G'', m' < m → Dn G' G'' → W m' ρ' G'' → E.nx ρ' G') → (∀ m' ρ' G' G'', m' < m → Dn G' G'' → W m' ρ' G'' → E.ct ρ' G') → (∀ d G', De.rt d G' → E.rt d G') → (∀ ρ' G', De.nx ρ' G' → E.bk ρ' G') → (∀ z ρ' G', De.ex z ρ' G' → E.ex z ρ' G') →
      tc ρ G (fun k G1 => if k = true then tb E ρ G1 else De.nx ρ G1) fun z => De.ex z ρ) : sWhile tc tb De ρ G :=
  ⟨W, ⟨m0, h0⟩, fun m ρ G w => turn m ρ G { De with nx := Fewer fun ρ' G' => ∃ m', m' < m ∧ W m' ρ' G', ct := Fewer fun ρ' G' => ∃ m', m' < m ∧ W m' ρ' G', bk := De.nx } w (fun m' ρ' G' G'' h d w => ⟨G'', d, m', h, w⟩) (fun m' ρ' G' G'' h d w => ⟨G'', d, m', h, w⟩) (fun _ _ z => z) (fun _ _ z => z) (fun _ _ _ z => z)⟩
/-- a written length -/
theorem sz3 (n : Nat) (h : n ≤ 16777216 := by decide) : n ≤ sizeLine := h
/-! the pen: one list of the script's numbers, a place, a rest -/
structure Pn where
  cells : List Int
  at_ : Nat
  rest : Nat
def Pn.c (s : Pn) : Cl := .lst [.rl (s.cells.map D.int), .int s.at_, .int s.rest]
/-- B pens: the draws are counted -/
def spDrawB : DSp := fun ds G Q _ => ∃ (p : Addr) (s : Pn) (m : Int) (G0 : Sto), ds = [.ref p, .int m] ∧ G = put G0 p s.c ∧ 1 ≤ m ∧ m < 2 ^ 200 ∧ s.at_ < 2 ^ 62 ∧ ∀ (k : Nat) (s' : Pn), (k : Int) < m → s'.at_ ≤ s.at_ + 1 → Q (.int k) (put G0 p s'.c)
def spDrawP (Pr : Nat → Prop) : DSp := fun ds G Q _ => ∃ (p : Addr) (s : Pn) (m : Int) (G0 : Sto), ds = [.ref p, .int m] ∧ G = put G0 p s.c ∧ 1 ≤ m ∧ m < 2 ^ 200 ∧ Pr s.at_ ∧ ∀ (k : Nat) (s' : Pn), (k : Int) < m → s'.at_ ≤ s.at_ + 1 → Q (.int k) (put G0 p s'.c)
def spDraw : DSp := fun ds G Q _ => ∃ (p : Addr) (s : Pn) (m : Int) (G0 : Sto), ds = [.ref p, .int m] ∧ G = put G0 p s.c ∧ 1 ≤ m ∧ m < 2 ^ 200 ∧ ∀ (k : Nat) (s' : Pn), (k : Int) < m → Q (.int k) (put G0 p s'.c)
theorem cell_at {cells : List Int} {a : Nat} (hl : 0 < (cells.length : Int)) : ∃ cell, atI (cells.map D.int) ((a : Int) % ((cells.map D.int).length : Int)) = some (.int cell) := by
  rw [List.length_map]
  have hr1 := Int.emod_nonneg (a : Int) (show (cells.length : Int) ≠ 0 by omega)
  have hr2 := Int.emod_lt_of_pos (a : Int) hl
  obtain ⟨j, hj⟩ : ∃ j : Nat, (a : Int) % (cells.length : Int) = j := ⟨((a : Int) % (cells.length : Int)).toNat, by omega⟩
  have hjl : j < cells.length := by omega
  rw [hj]
  exact ⟨cells[j], atI_nat (by rw [List.getElem?_map, List.getElem?_eq_getElem hjl]; rfl)⟩
/-- what is told of a pen's draw at its end -/
theorem draw_end {Q : DQ} {G0 : Sto} {p : Addr} {m i : Int} {b : Nat} (hm : 1 ≤ m) (q : ∀ (k : Nat) (s' : Pn), (k : Int) < m → s'.at_ ≤ b → Q (.int k) (put G0 p s'.c)) (s' : Pn) (hb : s'.at_ ≤ b) : Q (.int (i % m)) (put G0 p s'.c) := by
  have h1 := Int.emod_nonneg i (show m ≠ 0 by omega)
  have h2 := Int.emod_lt_of_pos i (show 0 < m by omega)
  obtain ⟨k, hk⟩ : ∃ k : Nat, i % m = k := ⟨(i % m).toNat, by omega⟩
  rw [hk]
  exact q k s' (by omega) hb
theorem div_nat (a : Nat) {m : Int} (h : 1 ≤ m) : ∃ b : Nat, (a : Int) / m = b := ⟨((a : Int) / m).toNat, by have := Int.ediv_nonneg (show 0 ≤ (a : Int) by omega) (show 0 ≤ m by omega); omega⟩
theorem abs_nat (i : Int) : ∃ b : Nat, (if i < 0 then -i else i) = b := ⟨i.natAbs, by split <;> omega⟩
/-- draw's first half: the same in both -/
theorem draw_any {Pr : Nat → Prop} {C : CB} {c0 : Int} (hC : C = .cons (.ifs (.cmp .Gt (.ix (.var 0) (.int 2)) (.int 0)) (.cons (.asg (.name 5) (.bin .Mod (.ix (.var 0) (.int 2)) (.var 1))) (.cons (.asg (.sub (.var 0) (.int 2)) (.bin .FloorDiv (.ix (.var 0) (.int 2)) (.var 1))) (.cons (.ret (.var 5)) .nil))) .nil) (.cons (.asg (.name 2) (.ix (.var 0) (.int 1))) (.cons (.asg (.sub (.var 0) (.int 1)) (.addv (.var 2) (.int 1))) (.cons (.asg (.name 3) (.int c0)) (.cons (.ifs (.cmp .Gt (.blt .len (.cons (.ix (.var 0) (.int 0)) .nil)) (.int 0)) (.cons (.asg (.name 3) (.ix (.ix (.var 0) (.int 0)) (.bin .Mod (.var 2) (.blt .len (.cons (.ix (.var 0) (.int 0)) .nil))))) .nil) .nil) (.cons (.ifs (.and (.cmp .Lt (.var 2) (.blt .len (.cons (.ix (.var 0) (.int 0)) .nil))) (.cmp .GtE (.blt .abs (.cons (.var 3) .nil)) (.bin .Pow (.int 10) (.int 18)))) (.cons (.asg (.sub (.var 0) (.int 2)) (.bin .FloorDiv (.blt .abs (.cons (.var 3) .nil)) (.var 1))) (.cons (.ret (.bin .Mod (.blt .abs (.cons (.var 3) .nil)) (.var 1))) .nil)) .nil) (C.drop 6)))))))
    (last : ∀ (Q : DQ) (xq : XQ) (p : Addr) (m : Int) (a : Nat) (cell : Int) (G : Sto), 1 ≤ m → Pr a → (∀ i : Int, Q (.int (i % m)) G) → denB [] [] (C.drop 6) (Fin0 Q xq) [some (.ref p), some (.int m), some (.int a), some (.int cell), none, none] G) : Bod [] [] C 6 (spDrawP Pr) := by
  rintro ds G Q xq ⟨p, s, m, G0, rfl, rfl, hm, hm2, hPr, q⟩
  have hm0 : 0 < m := by omega
  obtain ⟨cells, a, r⟩ := s
  rw [hC]
  refine ⟨_, _, put_same, rfl, ?_⟩
  refine ite2 (fun h => ?_) (fun h => ?_)
  · obtain ⟨b, hb⟩ := div_nat r hm
    refine ⟨_, _, put_same, rfl, hm0, _, _, put_same, rfl, divok hm hm2, _, _, put_same, rfl, ?_⟩
    rw [put_put]
    show Q (.int ((r : Int) % m)) (put G0 p (.lst [.rl (cells.map D.int), .int a, .int ((r : Int) / m)]))
    rw [hb]
    exact draw_end hm q ⟨cells, a, b⟩ (Nat.le_succ _)
  · refine ⟨_, _, put_same, rfl, _, _, put_same, rfl, ?_⟩
    rw [put_put]
    have tail : ∀ (cell : Int), denB [] [] ((CB.cons (.ifs (.and (.cmp .Lt (.var 2) (.blt .len (.cons (.ix (.var 0) (.int 0)) .nil))) (.cmp .GtE (.blt .abs (.cons (.var 3) .nil)) (.bin .Pow (.int 10) (.int 18)))) (.cons (.asg (.sub (.var 0) (.int 2)) (.bin .FloorDiv (.blt .abs (.cons (.var 3) .nil)) (.var 1))) (.cons (.ret (.bin .Mod (.blt .abs (.cons (.var 3) .nil)) (.var 1))) .nil)) .nil) (C.drop 6))) (Fin0 Q xq) [some (.ref p), some (.int m), some (.int a), some (.int cell), none, none] (put G0 p (Pn.c ⟨cells, a + 1, r⟩)) := by
      intro cell
      refine ⟨_, _, put_same, rfl, ?_⟩
      have fin := last Q xq p m a cell (put G0 p (Pn.c ⟨cells, a + 1, r⟩)) hm hPr fun i => draw_end hm q _ (Nat.le_refl _)
      refine ite2 (fun h1 => ?_) (fun h1 => ?_)
      · refine ⟨⟨by decide, by decide, by decide⟩, ?_⟩
        refine ite2 (fun h2 => ?_) (fun h2 => ?_)
        · obtain ⟨b, hb⟩ := abs_nat cell
          obtain ⟨c, hc⟩ := div_nat b hm
          refine ⟨divok hm hm2, _, _, put_same, rfl, hm0, ?_⟩
          rw [put_put]
          show Q (.int ((if cell < 0 then -cell else cell) % m)) (put G0 p (.lst [.rl (cells.map D.int), .int ((a + 1 : Nat) : Int), .int ((if cell < 0 then -cell else cell) / m)]))
          rw [hb, hc]
          exact draw_end hm q ⟨cells, a + 1, c⟩ (Nat.le_refl _)
        · exact fin
      · exact fin
    refine ⟨_, _, put_same, rfl, ?_⟩
    refine ite2 (fun h1 => ?_) (fun h1 => ?_)
    · have hl : 0 < (cells.length : Int) := by
        have := of_decide_eq_true h1
        rw [List.length_map] at this
        exact this
      obtain ⟨cell, hcell⟩ := cell_at (a := a) hl
      exact ⟨_, _, put_same, rfl, _, _, put_same, rfl, by rw [List.length_map]; exact hl, _, hcell, tail cell⟩
    · exact tail c0
theorem body_drawA : Bod [] [] drawAC 6 spDraw := by
  refine fun ds G Q xq ⟨p, s, m, G0, h1, h2, h3, h4, q⟩ => draw_any (Pr := fun _ => True) rfl (fun Q xq p m a cell G hm _ q => ?_) ds G Q xq ⟨p, s, m, G0, h1, h2, h3, h4, trivial, fun k s' h _ => q k s' h⟩
  have hm0 : 0 < m := by omega
  refine ⟨show (0 : Int) < 2147483647 by decide, mulL (by decide) (by decide), mulR (by decide) (by decide), show (0 : Int) < 2147483629 by decide, ?_⟩
  have hx1 := Int.emod_nonneg ((cell % 2147483647 + 69621 * (a : Int) + 13) * 48271) (show (2147483629 : Int) ≠ 0 by decide)
  have hx2 := Int.emod_lt_of_pos ((cell % 2147483647 + 69621 * (a : Int) + 13) * 48271) (show (0 : Int) < 2147483629 by decide)
  refine ⟨mulL (by omega) (by omega), show (0 : Int) < 2147483587 by decide, show (0 : Int) < 65521 by decide, mulL (by decide) (by decide), mulL ?_ ?_, show (0 : Int) < 2147483563 by decide, ?_⟩
  · exact Int.lt_of_lt_of_le (by decide) (Int.emod_nonneg _ (show (2147483587 : Int) ≠ 0 by decide))
  · exact Int.lt_trans (Int.emod_lt_of_pos _ (show (0 : Int) < 2147483587 by decide)) (by decide)
  exact ⟨.inl ⟨by decide, by decide⟩, hm0, q _⟩
theorem body_drawB : Bod [] [] drawBC 6 spDrawB := by
  refine draw_any (Pr := fun a => a < 2 ^ 62) rfl fun Q xq p m a cell G hm hPr q => ?_
  have hm0 : 0 < m := by omega
  refine ⟨show (0 : Int) < 2147483629 by decide, mulL (by decide) (by decide), mulR (by decide) (by decide), show (0 : Int) < 2147483587 by decide, ?_⟩
  have hx1 := Int.emod_nonneg ((cell % 2147483629 + 48271 * (a : Int) + 29) * 69621) (show (2147483587 : Int) ≠ 0 by decide)
  have hx2 := Int.emod_lt_of_pos ((cell % 2147483629 + 48271 * (a : Int) + 29) * 69621) (show (0 : Int) < 2147483587 by decide)
  refine ⟨mulL (by omega) (by omega), mulL (by decide) (by decide), ?_, show (0 : Int) < 2147483563 by decide, ?_⟩
  · exact mulL (by omega) (by omega)
  exact ⟨mulR (by decide) (by decide), show (0 : Int) < 2147483399 by decide, .inl ⟨by decide, by decide⟩, hm0, q _⟩
/-! the pen of a script -/
def spPen : DSp := fun ds G Q _ => ∃ ns : List Int, ds = [.sc (ns.map D.int)] ∧ ∀ p, G p = none → Q (.ref p) (put G p (Pn.c ⟨ns.take 63, 0, 0⟩))
theorem cut63 (ns : List Int) : cutD (ns.map D.int) none (some 63) = (ns.take 63).map D.int := by
  unfold cutD
  rw [List.length_map]
  have h0 : HT.sIx ns.length 0 none = 0 := rfl
  have h1 : HT.sIx ns.length ns.length (some 63) = min 63 ns.length := by
    unfold HT.sIx
    simp
  rw [h0, h1, List.drop_zero, Nat.sub_zero, ← List.map_take]
  congr 1
  rw [List.take_eq_take_iff]
  omega
/-- a comprehension that tells just f of its items; the store stays -/
theorem lc_mapV {g : DG} {te : DE} {ρ0 : Ev} {keep : Sto → Prop} {fin : List D → Sto → Prop} {G : Sto} (f : D → D) {items items0 : List D} (he : items0 = items) (hl : items.length < sizeLine) (hk : keep G)
    (step : ∀ (i : Nat) (x : D), items[i]? = some x → ∀ K : D → Sto → Prop, K (f x) G → g x ρ0 G (fun ρ1 G1 => te ρ1 G1 K (fun _ _ => False)) (fun _ _ _ => False))
    (h : fin (items.map f) G) : lcS g dYes te ρ0 keep fin items0 [] G := by
  cases he
  refine lc_ix (I := fun k acc G1 => acc = (items.map f).take k ∧ G1 = G) 0 ⟨rfl, rfl⟩ ?_ ?_
  · rintro i x hx acc G1 N ⟨rfl, rfl⟩ hN
    rw [Nat.zero_add] at hN ⊢
    have hi := (List.getElem?_eq_some_iff.mp hx).1
    refine ⟨hk, step i x hx (fun d G3 => ((items.map f).take i).length < sizeLine ∧ N ((items.map f).take i ++ [d]) G3) ⟨?_, hN _ _ ⟨?_, rfl⟩⟩⟩
    · rw [List.length_take, List.length_map]
      omega
    · exact take_snoc (by rw [List.getElem?_map, hx]; rfl)
  · rintro acc G1 ⟨rfl, rfl⟩
    rw [Nat.zero_add]
    refine ⟨hk, ?_⟩
    have e : (items.map f).take items.length = items.map f := by
      conv => lhs; rw [← List.length_map (f := f)]
      exact List.take_length
    rw [e]
    exact h
theorem body_pen : Bod [] [] penC 2 spPen := by
  rintro ds G Q xq ⟨ns, rfl, q⟩
  show lcS _ _ _ _ _ _ _ _ _
  refine lc_mapV id (cut63 ns) ?_ trivial (fun i x hx K k => k) ⟨sz3 3, ?_⟩
  · rw [List.length_map, List.length_take]
    exact Nat.lt_of_le_of_lt (Nat.min_le_left _ _) (by decide)
  · rw [List.map_id]
    exact q
/-! a worth drawn -/
abbrev WorthN (a : Nat) : Prop := a < 65536
def spWorth : DSp := fun ds G Q _ => ∃ (p : Addr) (s : Pn) (G0 : Sto), ds = [.ref p] ∧ G = put G0 p s.c ∧ ∀ (a : Nat) (s' : Pn), WorthN a → Q (.int a) (put G0 p s'.c)
theorem body_worth : Bod [spDraw] [] worthC 2 spWorth := by
  rintro ds G Q xq ⟨p, s, G0, rfl, rfl, q⟩
  refine ⟨p, s, 6, G0, rfl, rfl, by decide, by decide, fun w s1 h1 => ?_⟩
  refine ite2 (fun h => ?_) (fun h => ?_)
  · have h3 : w < 3 := by have := of_decide_eq_true h; omega
    refine ⟨by decide, ?_⟩
    match w, h3 with
    | 0, _ => exact ⟨_, rfl, q 0 s1 (by decide)⟩
    | 1, _ => exact ⟨_, rfl, q 1 s1 (by decide)⟩
    | 2, _ => exact ⟨_, rfl, q 65535 s1 (by decide)⟩
  · refine ite2 (fun h => ?_) (fun h => ?_)
    · exact ⟨p, s1, 9, G0, rfl, rfl, by decide, by decide, fun r s2 hr => q r s2 (by show r < 65536; omega)⟩
    · exact ⟨p, s1, 65536, G0, rfl, rfl, by decide, by decide, fun r s2 hr => q r s2 (by show r < 65536; omega)⟩
end DL

namespace DL
open PySem PySem.Spec PyProof.Rows L2
/-- names_read: slots 0 things 1 thing; calls ; names  -/
def p_names_readC : CB := (.cons (.ret (.lcv [("thing", 1)] (.name 1) (.it (.var 0)) (.one (.val (.blt .isi (.cons (.var 1) (.cons (.tn .str) .nil))))) (.var 1))) .nil)
/-- read_by: slots 0 row; calls names_read; names  -/
def p_read_byC : CB := (.cons (.ifs (.cmp .Eq (.ix (.var 0) (.int 0)) (.str "set")) (.cons (.ret (.fn 0 (.cons (.slv (.var 0) (.part (.int 3)) .no) .nil))) .nil) .nil) (.cons (.ifs (.cmp .Eq (.ix (.var 0) (.int 0)) (.str "copy")) (.cons (.ret (.fn 0 (.cons (.slv (.var 0) (.part (.int 2)) .no) .nil))) .nil) .nil) (.cons (.ret (.fn 0 (.cons (.slv (.var 0) (.part (.int 1)) .no) .nil))) .nil)))
/-- set_by: slots 0 row; calls ; names  -/
def p_set_byC : CB := (.cons (.ifs (.cmp .Eq (.ix (.var 0) (.int 0)) (.str "tell")) (.cons (.ret (.lstv .nil)) .nil) .nil) (.cons (.ret (.lstv (.cons (.ix (.var 0) (.int 1)) .nil))) .nil))
/-- read_by_exit: slots 0 exit_row; calls names_read; names  -/
def p_read_by_exitC : CB := (.cons (.ifs (.cmp .Eq (.ix (.var 0) (.int 0)) (.str "if")) (.cons (.ret (.fn 0 (.cons (.slv (.var 0) (.part (.int 1)) (.part (.int 2))) .nil))) .nil) .nil) (.cons (.ret (.lstv .nil)) .nil))
/-- names_of: slots 0 program 1 found 2 rows 3 exit_row 4 row; calls read_by_exit set_by read_by; names  -/
def p_names_ofC : CB := (.cons (.asg (.name 1) (.blt .list (.cons (.ix (.var 0) (.int 0)) .nil))) (.cons (.fors (.tup 2 (.cons (.name 2) (.cons (.name 3) .nil))) (.it (.ix (.var 0) (.int 1))) (.cons (.fors (.name 4) (.it (.var 2)) (.cons (.expr (.mt .extend (.var 1) (.cons (.addv (.fn 1 (.cons (.var 4) .nil)) (.fn 2 (.cons (.var 4) .nil))) .nil))) .nil)) (.cons (.expr (.mt .extend (.var 1) (.cons (.fn 0 (.cons (.var 3) .nil)) .nil))) .nil))) (.lk 1 (.cons (.ret (.blt .tuple (.cons (.ssetv (.var 1)) .nil))) .nil))))
/-- _law_same: slots 0 _law_found 1 _law_due 2 _law_one_here 3 _law_other; calls _law_same; names  -/
def sameBC : CB := (.cons (.ifs (.val (.isiT [.list, .tuple] (.var 1))) (.cons (.ifs (.or (.not (.val (.isiT [.list, .tuple] (.var 0)))) (.cmp .NotEq (.blt .isi (.cons (.var 0) (.cons (.tn .list) .nil))) (.blt .isi (.cons (.var 1) (.cons (.tn .list) .nil))))) (.cons (.ret (.bl false)) .nil) .nil) (.cons (.ifs (.cmp .NotEq (.blt .len (.cons (.var 0) .nil)) (.blt .len (.cons (.var 1) .nil))) (.cons (.ret (.bl false)) .nil) .nil) (.cons (.ret (.blt .all (.cons (.lcv [("_law_one_here", 2), ("_law_other", 3)] (.tup 2 (.cons (.name 2) (.cons (.name 3) .nil))) (.zip (.var 0) (.var 1)) .no (.fn 0 (.cons (.var 2) (.cons (.var 3) .nil)))) .nil))) .nil))) .nil) (.cons (.ifs (.cmp .Is (.var 1) .non) (.cons (.ret (.cmp .Is (.var 0) .non)) .nil) .nil) (.cons (.ifs (.or (.cmp .NotEq (.blt .isi (.cons (.var 0) (.cons (.tn .bool) .nil))) (.blt .isi (.cons (.var 1) (.cons (.tn .bool) .nil)))) (.cmp .NotEq (.blt .isi (.cons (.var 0) (.cons (.tn .str) .nil))) (.blt .isi (.cons (.var 1) (.cons (.tn .str) .nil))))) (.cons (.ret (.bl false)) .nil) .nil) (.cons (.ret (.and (.isiT [.int, .str] (.var 0)) (.cmp .Eq (.var 0) (.var 1)))) .nil))))
/-- _law_deeds: slots ; calls ; names  -/
def l_deedsC : CB := (.cons (.ret (.lstv (.cons (.str "add") (.cons (.str "less") (.cons (.str "times") (.cons (.str "both") (.cons (.str "odd") (.cons (.str "same") (.cons (.str "under") .nil))))))))) .nil)
/-- _law_name: slots 0 _law_pen_here 1 _law_letters 2 _law_size 3 _law_k; calls _law_draw; names  -/
def l_nameC : CB := (.cons (.asg (.name 1) (.str "abcdefghijklmnopqrstuvwxyz")) (.cons (.ifs (.cmp .Eq (.fn 0 (.cons (.var 0) (.cons (.int 6) .nil))) (.int 0)) (.cons (.ret (.ix (.lstv (.cons (.str "add") (.cons (.str "tell") (.cons (.str "go") (.cons (.str "if") (.cons (.str "end") (.cons (.str "block") (.cons (.str "params") (.cons (.str "else") (.cons (.str "same") .nil)))))))))) (.fn 0 (.cons (.var 0) (.cons (.int 9) .nil))))) .nil) .nil) (.cons (.asg (.name 2) (.ix (.lstv (.cons (.int 1) (.cons (.int 1) (.cons (.int 2) (.cons (.int 8) (.cons (.addv (.int 1) (.fn 0 (.cons (.var 0) (.cons (.int 8) .nil)))) .nil)))))) (.fn 0 (.cons (.var 0) (.cons (.int 5) .nil))))) (.cons (.ret (.mt .join (.str "") (.cons (.lcv [("_law_k", 3)] (.name 3) (.rng1 (.var 2)) .no (.ix (.var 1) (.fn 0 (.cons (.var 0) (.cons (.int 26) .nil))))) .nil))) .nil))))
/-- _law_names: slots 0 _law_pen_here 1 _law_many 2 _law_found 3 _law_k 4 _law_name_here 5 _law_sign; calls _law_name; names  -/
def l_namesC : CB := (.cons (.asg (.name 2) (.lst .nil)) (.cons (.fors (.name 3) (.rng1 (.var 1)) (.cons (.asg (.name 4) (.fn 0 (.cons (.var 0) .nil))) (.cons (.fors (.name 5) (.it (.str "abcdefghijklmnopqrstuvwxyz")) (.cons (.ifs (.cmp .In (.var 4) (.var 2)) (.cons (.asg (.name 4) (.addv (.slv (.var 4) .no (.part (.bin .Sub (.blt .len (.cons (.var 4) .nil)) (.int 1)))) (.var 5))) .nil) .nil) .nil)) (.cons (.ifs (.cmp .NotIn (.var 4) (.var 2)) (.cons (.expr (.mt .append (.var 2) (.cons (.var 4) .nil))) .nil) .nil) .nil)))) (.lk 2 (.cons (.ret (.var 2)) .nil))))
/-- _law_one: slots 0 _law_pen_here 1 _law_names_here; calls _law_draw; names  -/
def l_oneC : CB := (.cons (.ifs (.or (.cmp .Eq (.var 1) (.lstv .nil)) (.cmp .Eq (.fn 0 (.cons (.var 0) (.cons (.int 4) .nil))) (.int 0))) (.cons (.ret (.ix (.lstv (.cons (.int 0) (.cons (.int 1) (.cons (.int 65535) (.cons (.fn 0 (.cons (.var 0) (.cons (.int 65536) .nil))) .nil))))) (.fn 0 (.cons (.var 0) (.cons (.int 4) .nil))))) .nil) .nil) (.cons (.ret (.ix (.var 1) (.fn 0 (.cons (.var 0) (.cons (.blt .len (.cons (.var 1) .nil)) .nil))))) .nil))
/-- _law_some_row: slots 0 _law_pen_here 1 _law_names_here 2 _law_readable 3 _law_way 4 _law_name_here; calls _law_one _law_deeds _law_draw; names  -/
def l_some_rowC : CB := (.cons (.asg (.name 3) (.fn 2 (.cons (.var 0) (.cons (.int 5) .nil)))) (.cons (.asg (.name 4) (.ix (.var 1) (.fn 2 (.cons (.var 0) (.cons (.blt .len (.cons (.var 1) .nil)) .nil))))) (.cons (.ifs (.cmp .Eq (.var 3) (.int 0)) (.cons (.ret (.tup (.cons (.str "tell") (.cons (.fn 0 (.cons (.var 0) (.cons (.var 2) .nil))) .nil)))) .nil) .nil) (.cons (.ifs (.cmp .Eq (.var 3) (.int 1)) (.cons (.ret (.tup (.cons (.str "copy") (.cons (.var 4) (.cons (.fn 0 (.cons (.var 0) (.cons (.var 2) .nil))) .nil))))) .nil) .nil) (.cons (.ret (.tup (.cons (.str "set") (.cons (.var 4) (.cons (.ix (.fn 1 .nil) (.fn 2 (.cons (.var 0) (.cons (.int 7) .nil)))) (.cons (.fn 0 (.cons (.var 0) (.cons (.var 2) .nil))) (.cons (.fn 0 (.cons (.var 0) (.cons (.var 2) .nil))) .nil))))))) .nil)))))
/-- _law_exit: slots 0 _law_pen_here 1 _law_many 2 _law_readable 3 _law_way; calls _law_draw _law_one; names  -/
def l_exitC : CB := (.cons (.asg (.name 3) (.fn 0 (.cons (.var 0) (.cons (.int 5) .nil)))) (.cons (.ifs (.cmp .Eq (.var 3) (.int 0)) (.cons (.ret (.tup (.cons (.str "end") .nil))) .nil) .nil) (.cons (.ifs (.cmp .Eq (.var 3) (.int 1)) (.cons (.ret (.tup (.cons (.str "go") (.cons (.fn 0 (.cons (.var 0) (.cons (.var 1) .nil))) .nil)))) .nil) .nil) (.cons (.ret (.tup (.cons (.str "if") (.cons (.fn 1 (.cons (.var 0) (.cons (.var 2) .nil))) (.cons (.fn 0 (.cons (.var 0) (.cons (.var 1) .nil))) (.cons (.fn 0 (.cons (.var 0) (.cons (.var 1) .nil))) .nil)))))) .nil))))
/-- _law_led: slots 0 _law_leave; calls ; names  -/
def l_ledC : CB := (.cons (.ifs (.cmp .Eq (.ix (.var 0) (.int 0)) (.str "go")) (.cons (.ret (.lstv (.cons (.ix (.var 0) (.int 1)) .nil))) .nil) .nil) (.cons (.ret (.lofv (.slv (.var 0) (.part (.int 2)) .no))) .nil))
/-- _law_reads: slots 0 _law_row 1 _law_ones 2 _law_one_here; calls ; names  -/
def l_readsC : CB := (.cons (.asg (.name 1) (.dctv (.cons (.str "set") (.slv (.var 0) (.part (.int 3)) .no) (.cons (.str "copy") (.slv (.var 0) (.part (.int 2)) .no) (.cons (.str "tell") (.slv (.var 0) (.part (.int 1)) .no) (.cons (.str "if") (.slv (.var 0) (.part (.int 1)) (.part (.int 2))) .nil)))))) (.cons (.ret (.lcv [("_law_one_here", 2)] (.name 2) (.it (.get2 (.var 1) (.ix (.var 0) (.int 0)) (.tup .nil))) (.one (.val (.blt .isi (.cons (.var 2) (.cons (.tn .str) .nil))))) (.var 2))) .nil))
/-- _law_sets: slots 0 _law_row 1 _law_name_here; calls ; names  -/
def l_setsC : CB := (.cons (.ret (.and (.cmp .In (.ix (.var 0) (.int 0)) (.tup (.cons (.str "set") (.cons (.str "copy") .nil)))) (.cmp .Eq (.ix (.var 0) (.int 1)) (.var 1)))) .nil)
/-- _law_unset_blocks: slots 0 _law_program_here 1 _law_name_here 2 _law_found 3 _law_waiting 4 _law_rows 5 _law_leave 6 _law_block 7 _law_row; calls _law_sets _law_led; names  -/
def l_unset_blocksC : CB := (.cons (.ifs (.cmp .In (.var 1) (.ix (.var 0) (.int 0))) (.cons (.ret (.lstv .nil)) .nil) .nil) (.cons (.asg (.name 2) (.lst (.cons (.int 0) .nil))) (.cons (.asg (.name 3) (.lst (.cons (.int 0) .nil))) (.cons (.whil (.cmp .NotEq (.var 3) (.lstv .nil)) (.cons (.asg (.tup 2 (.cons (.name 4) (.cons (.name 5) .nil))) (.ix (.ix (.var 0) (.int 1)) (.mt .pop (.var 3) .nil))) (.cons (.ifs (.cmp .Eq (.lcv [("_law_row", 7)] (.name 7) (.it (.var 4)) (.one (.val (.fn 0 (.cons (.var 7) (.cons (.var 1) .nil))))) (.var 7)) (.lstv .nil)) (.cons (.fors (.name 6) (.it (.fn 1 (.cons (.var 5) .nil))) (.cons (.ifs (.cmp .NotIn (.var 6) (.var 2)) (.cons (.expr (.mt .append (.var 2) (.cons (.var 6) .nil))) (.cons (.expr (.mt .append (.var 3) (.cons (.var 6) .nil))) .nil)) .nil) .nil)) .nil) .nil) .nil))) (.lk 2 (.cons (.ret (.var 2)) .nil))))))
/-- _law_all_names: slots 0 _law_program_here 1 _law_found 2 _law_rows 3 _law_leave 4 _law_row; calls _law_reads; names  -/
def l_all_namesC : CB := (.cons (.asg (.name 1) (.blt .list (.cons (.ix (.var 0) (.int 0)) .nil))) (.cons (.fors (.tup 2 (.cons (.name 2) (.cons (.name 3) .nil))) (.it (.ix (.var 0) (.int 1))) (.cons (.fors (.name 4) (.it (.addv (.lofv (.var 2)) (.lstv (.cons (.var 3) .nil)))) (.cons (.expr (.mt .extend (.var 1) (.cons (.fn 0 (.cons (.var 4) .nil)) .nil))) .nil)) (.cons (.expr (.mt .extend (.var 1) (.cons (.lcv [("_law_row", 4)] (.name 4) (.it (.var 2)) (.one (.cmp .NotEq (.ix (.var 4) (.int 0)) (.str "tell"))) (.ix (.var 4) (.int 1))) .nil))) .nil))) (.lk 1 (.cons (.ret (.ssetv (.var 1))) .nil))))
/-- _law_unset: slots 0 _law_program_here 1 _law_blocks 2 _law_b 3 _law_block 4 _law_rows 5 _law_r 6 _law_row 7 _law_name_here 8 _law_ahead 9 _law_one_here; calls _law_reads _law_sets _law_all_names _law_unset_blocks; names  -/
def l_unsetC : CB := (.cons (.asg (.name 1) (.dof (.lcv [("_law_name_here", 7)] (.name 7) (.it (.fn 2 (.cons (.var 0) .nil))) .no (.tup (.cons (.var 7) (.cons (.fn 3 (.cons (.var 0) (.cons (.var 7) .nil))) .nil)))))) (.cons (.fors (.tup 2 (.cons (.name 2) (.cons (.name 3) .nil))) (.enum (.ix (.var 0) (.int 1))) (.cons (.asg (.name 4) (.addv (.lofv (.ix (.var 3) (.int 0))) (.lstv (.cons (.ix (.var 3) (.int 1)) .nil)))) (.cons (.fors (.tup 2 (.cons (.name 5) (.cons (.name 6) .nil))) (.enum (.var 4)) (.cons (.fors (.name 7) (.it (.fn 0 (.cons (.var 6) .nil))) (.cons (.setLcv 8 [("_law_one_here", 9)] (.name 9) (.it (.slv (.var 4) .no (.part (.var 5)))) (.one (.val (.fn 1 (.cons (.var 9) (.cons (.var 7) .nil))))) (.var 9)) (.cons (.ifs (.and (.cmp .In (.var 2) (.ix (.var 1) (.var 7))) (.cmp .Eq (.var 8) (.lstv .nil))) (.cons (.ret (.tup (.cons (.var 2) (.cons (.var 5) .nil)))) .nil) .nil) .nil))) .nil)) .nil))) (.cons (.ret .non) .nil)))
/-- _law_worths_for: slots 0 _law_row 1 _law_names_here 2 _law_first 3 _law_last 4 _law_ones 5 _law_one_here; calls ; names  -/
def l_worths_forC : CB := (.cons (.asg (.name 2) (.ix (.dctv (.cons (.str "set") (.int 3) (.cons (.str "copy") (.int 2) (.cons (.str "tell") (.int 1) (.cons (.str "if") (.int 1) .nil))))) (.ix (.var 0) (.int 0)))) (.cons (.asg (.name 3) (.addv (.addv (.var 2) (.int 1)) (.blt .int (.cons (.cmp .Eq (.ix (.var 0) (.int 0)) (.str "set")) .nil)))) (.cons (.asg (.name 4) (.blt .tuple (.cons (.lcv [("_law_one_here", 5)] (.name 5) (.it (.slv (.var 0) (.part (.var 2)) (.part (.var 3)))) .no (.ix (.lstv (.cons (.var 5) (.cons (.int 7) .nil))) (.blt .int (.cons (.cmp .In (.var 5) (.var 1)) .nil)))) .nil))) (.cons (.ret (.addv (.addv (.slv (.var 0) .no (.part (.var 2))) (.var 4)) (.slv (.var 0) (.part (.var 3)) .no))) .nil))))
/-- _law_mended: slots 0 _law_program_here 1 _law_place 2 _law_names_here 3 _law_b 4 _law_r 5 _law_rows 6 _law_leave 7 _law_name_here 8 _law_row; calls _law_unset _law_worths_for _law_sets _law_all_names _law_unset_blocks; names  -/
def l_mendedC : CB := (.cons (.asg (.name 1) (.fn 0 (.cons (.var 0) .nil))) (.cons (.whil (.cmp .IsNot (.var 1) .non) (.cons (.asg (.tup 2 (.cons (.name 3) (.cons (.name 4) .nil))) (.var 1)) (.cons (.asg (.tup 2 (.cons (.name 5) (.cons (.name 6) .nil))) (.ix (.ix (.var 0) (.int 1)) (.var 3))) (.cons (.setLcv 2 [("_law_name_here", 7)] (.name 7) (.it (.fn 3 (.cons (.var 0) .nil))) (.one (.cmp .In (.var 3) (.fn 4 (.cons (.var 0) (.cons (.var 7) .nil))))) (.var 7)) (.cons (.setLcv 2 [("_law_name_here", 7)] (.name 7) (.it (.var 2)) (.one (.cmp .Eq (.lcv [("_law_row", 8)] (.name 8) (.it (.slv (.var 5) .no (.part (.var 4)))) (.one (.val (.fn 2 (.cons (.var 8) (.cons (.var 7) .nil))))) (.var 8)) (.lstv .nil))) (.var 7)) (.cons (.ifs (.cmp .Lt (.var 4) (.blt .len (.cons (.var 5) .nil))) (.cons (.asg (.name 5) (.addv (.addv (.slv (.var 5) .no (.part (.var 4))) (.tup (.cons (.fn 1 (.cons (.ix (.var 5) (.var 4)) (.cons (.var 2) .nil))) .nil))) (.slv (.var 5) (.part (.addv (.var 4) (.int 1))) .no))) .nil) (.cons (.asg (.name 6) (.fn 1 (.cons (.var 6) (.cons (.var 2) .nil)))) .nil)) (.cons (.asg (.name 0) (.tup (.cons (.ix (.var 0) (.int 0)) (.cons (.addv (.addv (.slv (.ix (.var 0) (.int 1)) .no (.part (.var 3))) (.tup (.cons (.tup (.cons (.var 5) (.cons (.var 6) .nil))) .nil))) (.slv (.ix (.var 0) (.int 1)) (.part (.addv (.var 3) (.int 1))) .no)) .nil)))) (.cons (.asg (.name 1) (.fn 0 (.cons (.var 0) .nil))) .nil)))))))) (.cons (.ret (.var 0)) .nil)))
/-- _law_wild_program: slots 0 _law_pen_here 1 _law_names_here 2 _law_params 3 _law_great 4 _law_many 5 _law_blocks 6 _law_b 7 _law_count 8 _law_rows 9 _law_r; calls _law_exit _law_some_row _law_draw _law_names; names  -/
def l_wild_programC : CB := (.cons (.asg (.name 1) (.fn 3 (.cons (.var 0) (.cons (.addv (.int 1) (.fn 2 (.cons (.var 0) (.cons (.ix (.lstv (.cons (.int 4) (.cons (.int 8) (.cons (.int 14) .nil)))) (.fn 2 (.cons (.var 0) (.cons (.int 3) .nil)))) .nil)))) .nil)))) (.cons (.asg (.name 2) (.blt .tuple (.cons (.slv (.var 1) .no (.part (.fn 2 (.cons (.var 0) (.cons (.addv (.int 1) (.blt .min (.cons (.int 4) (.cons (.blt .len (.cons (.var 1) .nil)) .nil)))) .nil))))) .nil))) (.cons (.asg (.name 3) (.cmp .Eq (.fn 2 (.cons (.var 0) (.cons (.int 8) .nil))) (.int 0))) (.cons (.asg (.name 4) (.ix (.lstv (.cons (.addv (.int 1) (.fn 2 (.cons (.var 0) (.cons (.int 6) .nil)))) (.cons (.int 6) .nil))) (.blt .int (.cons (.var 3) .nil)))) (.cons (.asg (.name 5) (.lst .nil)) (.cons (.fors (.name 6) (.rng1 (.var 4)) (.cons (.asg (.name 7) (.ix (.lstv (.cons (.fn 2 (.cons (.var 0) (.cons (.int 7) .nil))) (.cons (.int 6) .nil))) (.blt .int (.cons (.var 3) .nil)))) (.cons (.setLcv 8 [("_law_r", 9)] (.name 9) (.rng1 (.var 7)) .no (.fn 1 (.cons (.var 0) (.cons (.var 1) (.cons (.var 1) .nil))))) (.cons (.expr (.mt .append (.var 5) (.cons (.tup (.cons (.blt .tuple (.cons (.var 8) .nil)) (.cons (.fn 0 (.cons (.var 0) (.cons (.var 4) (.cons (.var 1) .nil)))) .nil))) .nil))) .nil)))) (.lk 5 (.cons (.ret (.tup (.cons (.var 2) (.cons (.blt .tuple (.cons (.var 5) .nil)) .nil)))) .nil))))))))
/-- _law_program: slots 0 _law_pen_here; calls _law_mended _law_wild_program; names  -/
def l_programC : CB := (.cons (.ret (.fn 0 (.cons (.fn 1 (.cons (.var 0) .nil)) .nil))) .nil)
end DL

namespace DL
open PySem PySem.Spec PyProof.Rows L2
/-! programs -/
inductive One where
  | nm (x : Str) | wo (n : Nat)
inductive Row where
  | set (x d : Str) (a b : One) | copy (x : Str) (a : One) | tell (a : One)
inductive Exit where
  | fin | go (b : Nat) | iff (a : One) (b c : Nat)
abbrev Blok := List Row × Exit
structure Prog where
  params : List Str
  blocks : List Blok
def One.d : One → D
  | .nm x => .str x
  | .wo n => .int n
def Row.d : Row → D
  | .set x e a b => .tup [.str "set", .str x, .str e, a.d, b.d]
  | .copy x a => .tup [.str "copy", .str x, a.d]
  | .tell a => .tup [.str "tell", a.d]
def Exit.d : Exit → D
  | .fin => .tup [.str "end"]
  | .go b => .tup [.str "go", .int b]
  | .iff a b c => .tup [.str "if", a.d, .int b, .int c]
def blokD (b : Blok) : D := .tup [.tup (b.1.map Row.d), b.2.d]
def strsD (ts : List Str) : D := .tup (ts.map D.str)
def strsL (ts : List Str) : D := .rl (ts.map D.str)
def Prog.d (p : Prog) : D := .tup [strsD p.params, .tup (p.blocks.map blokD)]
def One.names : One → List Str
  | .nm x => [x]
  | .wo _ => []
def onesN (os : List One) : List Str := os.flatMap One.names
def Row.reads : Row → List Str
  | .set _ _ a b => onesN [a, b]
  | .copy _ a => onesN [a]
  | .tell a => onesN [a]
def Row.sets : Row → List Str
  | .set x _ _ _ => [x]
  | .copy x _ => [x]
  | .tell _ => []
def Exit.reads : Exit → List Str
  | .iff a _ _ => onesN [a]
  | _ => []
def Exit.led : Exit → List Nat
  | .fin => []
  | .go b => [b]
  | .iff _ b c => [b, c]
/-! names_read -/
theorem lc_filtV {g : DG} {tt : DT} {te : DE} {ρ0 : Ev} {keep : Sto → Prop} {fin : List D → Sto → Prop} {G : Sto} (b : D → Bool) (f : D → D) {items items0 : List D} (he : items0 = items) (hl : items.length < sizeLine) (hk : keep G)
    (step : ∀ (i : Nat) (x : D), items[i]? = some x → ∀ (K : D → Sto → Prop) (N : Sto → Prop), (b x = true → K (f x) G) → (b x = false → N G) → g x ρ0 G (fun ρ1 G1 => tt ρ1 G1 (fun c G2 => if c = true then te ρ1 G2 K (fun _ _ => False) else N G2) (fun _ _ => False)) (fun _ _ _ => False))
    (h : fin ((items.filter b).map f) G) : lcS g tt te ρ0 keep fin items0 [] G := by
  cases he
  refine lc_ix (I := fun k acc G1 => acc = ((items.take k).filter b).map f ∧ G1 = G) 0 ⟨rfl, rfl⟩ ?_ ?_
  · rintro i x hx acc G1 N ⟨rfl, rfl⟩ hN
    rw [Nat.zero_add] at hN ⊢
    have hi := (List.getElem?_eq_some_iff.mp hx).1
    refine ⟨hk, step i x hx (fun d G3 => (((items.take i).filter b).map f).length < sizeLine ∧ N (((items.take i).filter b).map f ++ [d]) G3) _ (fun hb => ⟨?_, hN _ _ ⟨?_, rfl⟩⟩) (fun hb => hN _ _ ⟨?_, rfl⟩)⟩
    · rw [List.length_map]
      exact Nat.lt_of_le_of_lt (List.length_filter_le _ _) (by rw [List.length_take]; omega)
    · rw [List.take_add_one, hx]
      simp [hb]
    · rw [List.take_add_one, hx]
      simp [hb]
  · rintro acc G1 ⟨rfl, rfl⟩
    rw [Nat.zero_add, List.take_length]
    exact ⟨hk, h⟩
def isStrB : D → Bool
  | .str _ => true
  | _ => false
theorem filt_names (os : List One) : ((os.map One.d).filter isStrB).map id = (onesN os).map D.str := by
  induction os with
  | nil => rfl
  | cons o os ih =>
    unfold onesN at ih ⊢
    rw [List.map_cons, List.filter_cons, List.flatMap_cons, List.map_append, ← ih]
    cases o <;> rfl
def sp_p_names_read : DSp := fun ds G Q _ => ∃ os : List One, ds = [.tup (os.map One.d)] ∧ os.length ≤ 100 ∧ Q (strsL (onesN os)) G
theorem len_p_names_read : LenS sp_p_names_read 1 := by rintro ds G Q xq ⟨s, rfl, _⟩; rfl
theorem body_p_names_read : Bod [] [] p_names_readC 2 sp_p_names_read := by
  rintro ds G Q xq ⟨os, rfl, hl, q⟩
  show lcS _ _ _ _ _ _ _ _ _
  refine lc_filtV isStrB id rfl (by rw [List.length_map]; exact Nat.lt_of_le_of_lt hl (by decide)) trivial (fun i x hx K N h1 h2 => ?_) ?_
  · rw [List.getElem?_map] at hx
    cases e : os[i]? with
    | none => rw [e] at hx; cases hx
    | some o =>
      rw [e] at hx
      cases hx
      cases o with
      | nm x => exact ⟨true, rfl, h1 rfl⟩
      | wo n => exact ⟨false, rfl, h2 rfl⟩
  · rw [filt_names]
    exact q
def sp_p_read_by : DSp := fun ds G Q _ => ∃ r : Row, ds = [r.d] ∧ Q (strsL r.reads) G
theorem len_p_read_by : LenS sp_p_read_by 1 := by rintro ds G Q xq ⟨s, rfl, _⟩; rfl
theorem body_p_read_by : Bod [sp_p_names_read] [] p_read_byC 1 sp_p_read_by := by
  rintro ds G Q xq ⟨r, rfl, q⟩
  cases r with
  | set x e a b => exact ⟨_, rfl, [a, b], rfl, by simp, q⟩
  | copy x a => exact ⟨_, rfl, _, rfl, [a], rfl, by simp, q⟩
  | tell a => exact ⟨_, rfl, _, rfl, [a], rfl, by simp, q⟩
def sp_p_set_by : DSp := fun ds G Q _ => ∃ r : Row, ds = [r.d] ∧ Q (strsL r.sets) G
theorem len_p_set_by : LenS sp_p_set_by 1 := by rintro ds G Q xq ⟨s, rfl, _⟩; rfl
theorem body_p_set_by : Bod [] [] p_set_byC 1 sp_p_set_by := by
  rintro ds G Q xq ⟨r, rfl, q⟩
  cases r with
  | set x e a b => exact ⟨_, rfl, _, rfl, sz3 1, q⟩
  | copy x a => exact ⟨_, rfl, _, rfl, sz3 1, q⟩
  | tell a => exact ⟨_, rfl, sz3 0, q⟩
def sp_p_read_by_exit : DSp := fun ds G Q _ => ∃ e : Exit, ds = [e.d] ∧ Q (strsL e.reads) G
theorem len_p_read_by_exit : LenS sp_p_read_by_exit 1 := by rintro ds G Q xq ⟨s, rfl, _⟩; rfl
theorem body_p_read_by_exit : Bod [sp_p_names_read] [] p_read_by_exitC 1 sp_p_read_by_exit := by
  rintro ds G Q xq ⟨e, rfl, q⟩
  cases e with
  | fin => exact ⟨_, rfl, sz3 0, q⟩
  | go b => exact ⟨_, rfl, sz3 0, q⟩
  | iff a b c => exact ⟨_, rfl, [a], rfl, by simp, q⟩
/-! names_of -/
def rowN (r : Row) : List Str := r.sets ++ r.reads
def blokN (b : Blok) : List Str := b.1.flatMap rowN ++ b.2.reads
def Prog.names (p : Prog) : List Str := p.params ++ p.blocks.flatMap blokN
theorem ones_len (os : List One) : (onesN os).length ≤ os.length := by
  induction os with
  | nil => exact Nat.le_refl _
  | cons o os ih =>
    unfold onesN at ih ⊢
    rw [List.flatMap_cons, List.length_append, List.length_cons]
    have : (One.names o).length ≤ 1 := by cases o <;> simp [One.names]
    omega
theorem rowN_len (r : Row) : (rowN r).length ≤ 3 := by
  unfold rowN
  rw [List.length_append]
  cases r with
  | set x e a b => have := ones_len [a, b]; simp [Row.sets, Row.reads] at *; omega
  | copy x a => have := ones_len [a]; simp [Row.sets, Row.reads] at *; omega
  | tell a => have := ones_len [a]; simp [Row.sets, Row.reads] at *; omega
theorem exitR_len (e : Exit) : e.reads.length ≤ 1 := by
  cases e with
  | iff a b c => exact ones_len [a]
  | _ => simp [Exit.reads]
theorem flat_len {α β : Type} {f : α → List β} {n : Nat} (h : ∀ x, (f x).length ≤ n) : ∀ l : List α, (l.flatMap f).length ≤ n * l.length
  | [] => by simp
  | x :: l => by
    rw [List.flatMap_cons, List.length_append, List.length_cons, Nat.mul_add]
    have := h x
    have := flat_len h l
    omega
/-- of a form that programs have -/
structure Prog.Few (p : Prog) : Prop where
  pl : p.params.length ≤ 10
  bl : p.blocks.length ≤ 10
  rl : ∀ b ∈ p.blocks, b.1.length ≤ 10
  nl : (srtO ltS p.names).length < 64
theorem flat_take {α β : Type} {f : α → List β} {l : List α} {i : Nat} {x : α} (h : l[i]? = some x) : (l.take (i + 1)).flatMap f = (l.take i).flatMap f ++ f x := by
  rw [← take_snoc h, List.flatMap_append]
  simp
theorem flat_take_len {α β : Type} {f : α → List β} (l : List α) (i : Nat) : ((l.take i).flatMap f).length ≤ (l.flatMap f).length := by
  conv => rhs; rw [← List.take_append_drop i l, List.flatMap_append, List.length_append]
  omega
theorem blokN_len {b : Blok} (h : b.1.length ≤ 10) : (blokN b).length ≤ 31 := by
  unfold blokN
  rw [List.length_append]
  have h1 := flat_len (f := rowN) (n := 3) rowN_len b.1
  have h2 := exitR_len b.2
  omega
theorem flat_len' {α β : Type} {f : α → List β} {n : Nat} : ∀ l : List α, (∀ x ∈ l, (f x).length ≤ n) → (l.flatMap f).length ≤ n * l.length
  | [], _ => by simp
  | x :: l, h => by
    rw [List.flatMap_cons, List.length_append, List.length_cons, Nat.mul_add]
    have := h x (by simp)
    have := flat_len' l fun y hy => h y (by simp [hy])
    omega
theorem Prog.Few.len {p : Prog} (h : p.Few) : p.names.length ≤ 320 := by
  unfold Prog.names
  rw [List.length_append]
  have := h.pl
  have h1 := flat_len' (f := blokN) (n := 31) p.blocks fun b hb => blokN_len (h.rl b hb)
  have := h.bl
  omega
theorem get_map {α : Type} {f : α → D} {l : List α} {i : Nat} {x : D} (h : (l.map f)[i]? = some x) : ∃ y, l[i]? = some y ∧ x = f y := by
  rw [List.getElem?_map] at h
  cases e : l[i]? with
  | none => rw [e] at h; cases h
  | some y =>
    rw [e] at h
    exact ⟨y, rfl, (Option.some.inj h).symm⟩
theorem map_app (a b : List Str) : a.map D.str ++ b.map D.str = (a ++ b).map D.str := (List.map_append ..).symm
def sp_p_names_of : DSp := fun ds G Q _ => ∃ p : Prog, ds = [p.d] ∧ p.Few ∧ Q (strsD (srtO ltS p.names)) G
theorem len_p_names_of : LenS sp_p_names_of 1 := by rintro ds G Q xq ⟨s, rfl, _⟩; rfl
theorem body_p_names_of : BodW [sp_p_read_by_exit, sp_p_set_by, sp_p_read_by] [] p_names_ofC 5 sp_p_names_of := by
  rintro ds G Q xq ⟨p, rfl, hp, q⟩
  refine ⟨_, rfl, fun a fa => ?_⟩
  refine ⟨_, rfl, ?_⟩
  have hl := hp.len
  refine for_at (I := fun i ρ G1 => (∃ x2 x3 x4, ρ = [some p.d, some (.ref a), x2, x3, x4]) ∧ G1 = put G a (.lst ((p.params ++ (p.blocks.take i).flatMap blokN).map D.str))) ⟨⟨none, none, none, rfl⟩, by simp⟩ ?_ ?_
  · rintro i x hx ρ G1 N ⟨⟨x2, x3, x4, rfl⟩, rfl⟩ hN
    obtain ⟨b, hb, rfl⟩ := get_map hx
    have hbm := List.mem_of_getElem? hb
    have hlen : (p.params ++ (p.blocks.take (i + 1)).flatMap blokN).length ≤ 320 := by
      have := flat_take_len (f := blokN) p.blocks (i + 1)
      have h2 := hl
      unfold Prog.names at h2
      rw [List.length_append] at h2 ⊢
      omega
    have hlen2 : (p.params ++ (p.blocks.take i).flatMap blokN ++ b.1.flatMap rowN ++ b.2.reads) = p.params ++ (p.blocks.take (i + 1)).flatMap blokN := by
      rw [flat_take hb]
      simp [blokN]
    rw [← hlen2] at hlen
    refine ⟨trivial, rfl, ?_⟩
    refine for_at (I := fun j ρ G1 => (∃ x4, ρ = [some p.d, some (.ref a), some (.tup (b.1.map Row.d)), some b.2.d, x4]) ∧ G1 = put G a (.lst ((p.params ++ (p.blocks.take i).flatMap blokN ++ (b.1.take j).flatMap rowN).map D.str))) ⟨⟨x4, rfl⟩, by simp⟩ ?_ ?_
    · rintro j y hy ρ G1 N2 ⟨⟨x4, rfl⟩, rfl⟩ hN2
      obtain ⟨r, hr, rfl⟩ := get_map hy
      have hl3 := flat_take_len (f := rowN) b.1 (j + 1)
      rw [flat_take hr, List.length_append] at hl3
      simp only [List.length_append] at hlen
      have hrl : (rowN r).length = r.sets.length + r.reads.length := by unfold rowN; rw [List.length_append]
      refine ⟨trivial, ⟨rfl, _, put_same⟩, r, rfl, r, rfl, ?_⟩
      refine ⟨by rw [List.length_map, List.length_map]; exact Nat.le_trans (show _ ≤ 320 by omega) (by decide), ?_⟩
      refine ⟨_, put_same, ?_, ?_⟩
      · simp only [List.length_map, List.length_append]
        exact Nat.le_trans (show _ ≤ 320 by omega) (by decide)
      · refine hN2 _ _ _ .refl ⟨⟨_, rfl⟩, ?_⟩
        rw [put_put, map_app, map_app, flat_take hr]
        simp [rowN]
    · rintro ρ G1 ⟨⟨x4, rfl⟩, rfl⟩
      rw [List.length_map, List.take_length]
      refine ⟨trivial, ⟨rfl, _, put_same⟩, b.2, rfl, _, put_same, ?_, ?_⟩
      · simp only [List.length_map]
        rw [← List.length_append]
        exact Nat.le_trans hlen (by decide)
      · refine hN _ _ _ .refl ⟨⟨_, _, _, rfl⟩, ?_⟩
        rw [put_put, map_app, hlen2]
  · rintro ρ G1 ⟨⟨x2, x3, x4, rfl⟩, rfl⟩
    rw [List.length_map, List.take_length]
    refine ⟨trivial, a, _, rfl, put_same, ?_⟩
    rw [drop_put fa]
    exact .inr ⟨p.names, rfl, by omega, hp.nl, .of q⟩
end DL

namespace DL
open PySem PySem.Spec PyProof.Rows L2
/-! rows and exits by the law's own helpers -/
inductive Ln where
  | row (r : Row) | ex (e : Exit)
def Ln.d : Ln → D
  | .row r => r.d
  | .ex e => e.d
def Ln.reads : Ln → List Str
  | .row r => r.reads
  | .ex e => e.reads
def Ln.sets : Ln → List Str
  | .row r => r.sets
  | .ex _ => []
def sp_l_reads : DSp := fun ds G Q _ => ∃ l : Ln, ds = [l.d] ∧ Q (strsL l.reads) G
theorem len_l_reads : LenS sp_l_reads 1 := by rintro ds G Q xq ⟨s, rfl, _⟩; rfl
theorem ones_step {os : List One} {i : Nat} {x : D} (hx : (os.map One.d)[i]? = some x) {G : Sto} {K N : Sto → Prop} (h1 : isStrB x = true → K G) (h2 : isStrB x = false → N G) :
    tyD x G fun t => ∃ b, kitB t "str" = some b ∧ if b = true then K G else N G := by
  obtain ⟨o, _, rfl⟩ := get_map hx
  cases o with
  | nm x => exact ⟨true, rfl, iteT (h1 rfl)⟩
  | wo n => exact ⟨false, rfl, iteF (h2 rfl)⟩
theorem iter_tup {d : D} {ds : List D} {G : Sto} {R : IQ} (h : d = .tup ds) (r : R ds (fun _ => True) G) : iterD d G R := by
  subst h
  exact r
theorem body_l_reads : Bod [] [] l_readsC 3 sp_l_reads := by
  rintro ds G Q xq ⟨l, rfl, q⟩
  have fin : ∀ (os : List One) {g : DG} {tt : DT} {te : DE} {ρ0 : Ev}, os.length ≤ 2 → Q (strsL (onesN os)) G → (∀ (i : Nat) (x : D), (os.map One.d)[i]? = some x → ∀ (K : D → Sto → Prop) (N : Sto → Prop), (isStrB x = true → K (id x) G) → (isStrB x = false → N G) → g x ρ0 G (fun ρ1 G1 => tt ρ1 G1 (fun c G2 => if c = true then te ρ1 G2 K (fun _ _ => False) else N G2) (fun _ _ => False)) (fun _ _ _ => False)) → lcS g tt te ρ0 (fun _ => True) (fun acc G2 => Q (.rl acc) G2) (os.map One.d) [] G := by
    intro os g tt te ρ0 h2 q st
    refine lc_filtV isStrB id rfl (by rw [List.length_map]; exact Nat.lt_of_le_of_lt h2 (by decide)) trivial st ?_
    rw [filt_names]
    exact q
  cases l with
  | row r =>
    cases r with
    | set x e a b =>
      refine ⟨[(.inr "set", _), (.inr "copy", _), (.inr "tell", _), (.inr "if", _)], rfl, by simp, rfl, _, rfl, sz3 0, _, rfl, ?_⟩
      refine iter_tup (ds := ([a, b] : List One).map One.d) rfl ?_
      exact fin [a, b] (by simp) q fun i x hx K N n1 n2 => ones_step hx n1 n2
    | copy x a =>
      refine ⟨[(.inr "set", _), (.inr "copy", _), (.inr "tell", _), (.inr "if", _)], rfl, by simp, rfl, _, rfl, sz3 0, _, rfl, ?_⟩
      refine iter_tup (ds := ([a] : List One).map One.d) rfl ?_
      exact fin [a] (by simp) q fun i x hx K N n1 n2 => ones_step hx n1 n2
    | tell a =>
      refine ⟨[(.inr "set", _), (.inr "copy", _), (.inr "tell", _), (.inr "if", _)], rfl, by simp, rfl, _, rfl, sz3 0, _, rfl, ?_⟩
      refine iter_tup (ds := ([a] : List One).map One.d) rfl ?_
      exact fin [a] (by simp) q fun i x hx K N n1 n2 => ones_step hx n1 n2
  | ex e =>
    cases e with
    | fin =>
      refine ⟨[(.inr "set", _), (.inr "copy", _), (.inr "tell", _), (.inr "if", _)], rfl, by simp, rfl, _, rfl, sz3 0, _, rfl, ?_⟩
      refine iter_tup (ds := ([] : List One).map One.d) rfl ?_
      exact fin [] (by simp) q fun i x hx K N n1 n2 => ones_step hx n1 n2
    | go b =>
      refine ⟨[(.inr "set", _), (.inr "copy", _), (.inr "tell", _), (.inr "if", _)], rfl, by simp, rfl, _, rfl, sz3 0, _, rfl, ?_⟩
      refine iter_tup (ds := ([] : List One).map One.d) rfl ?_
      exact fin [] (by simp) q fun i x hx K N n1 n2 => ones_step hx n1 n2
    | iff a b c =>
      refine ⟨[(.inr "set", _), (.inr "copy", _), (.inr "tell", _), (.inr "if", _)], rfl, by simp, rfl, _, rfl, sz3 0, _, rfl, ?_⟩
      refine iter_tup (ds := ([a] : List One).map One.d) rfl ?_
      exact fin [a] (by simp) q fun i x hx K N n1 n2 => ones_step hx n1 n2
def setsB (l : Ln) (x : Str) : Bool := l.sets.any fun y => y == x
def sp_l_sets : DSp := fun ds G Q _ => ∃ (l : Ln) (x : Str), ds = [l.d, .str x] ∧ Q (.bl (setsB l x)) G
theorem len_l_sets : LenS sp_l_sets 2 := by rintro ds G Q xq ⟨s, x, rfl, _⟩; rfl
theorem body_l_sets : Bod [] [] l_setsC 2 sp_l_sets := by
  rintro ds G Q xq ⟨l, x, rfl, q⟩
  have e : ∀ (y : Str), (y == x || false) = (y == x) := fun y => Bool.or_false _
  cases l with
  | row r =>
    cases r with
    | set y e a b =>
      refine ⟨_, rfl, sz3 2, rfl, rfl, _, rfl, ?_⟩
      have q : Q (.bl (y == x || false)) G := q
      rw [Bool.or_false] at q
      exact q
    | copy y a =>
      refine ⟨_, rfl, sz3 2, rfl, rfl, _, rfl, ?_⟩
      have q : Q (.bl (y == x || false)) G := q
      rw [Bool.or_false] at q
      exact q
    | tell a => exact ⟨_, rfl, sz3 2, rfl, rfl, q⟩
  | ex e =>
    cases e with
    | fin => exact ⟨_, rfl, sz3 2, rfl, rfl, q⟩
    | go b => exact ⟨_, rfl, sz3 2, rfl, rfl, q⟩
    | iff a b c => exact ⟨_, rfl, sz3 2, rfl, rfl, q⟩
def natsL (ns : List Nat) : D := .rl (ns.map fun n => D.int (n : Nat))
def sp_l_led : DSp := fun ds G Q _ => ∃ e : Exit, ds = [e.d] ∧ Q (natsL e.led) G
theorem len_l_led : LenS sp_l_led 1 := by rintro ds G Q xq ⟨s, rfl, _⟩; rfl
theorem body_l_led : Bod [] [] l_ledC 1 sp_l_led := by
  rintro ds G Q xq ⟨e, rfl, q⟩
  cases e with
  | fin => exact ⟨_, rfl, q⟩
  | go b => exact ⟨_, rfl, _, rfl, sz3 1, q⟩
  | iff a b c => exact ⟨_, rfl, q⟩
end DL

namespace DL
open PySem PySem.Spec PyProof.Rows L2
/-! all names, by the law -/
def linesOf (b : Blok) : List Ln := b.1.map Ln.row ++ [Ln.ex b.2]
theorem linesD (b : Blok) : (linesOf b).map Ln.d = b.1.map Row.d ++ [b.2.d] := by
  unfold linesOf
  rw [List.map_append, List.map_map]
  rfl
def blokM (b : Blok) : List Str := (linesOf b).flatMap Ln.reads ++ b.1.flatMap Row.sets
theorem mem_flat {α β : Type} {f : α → List β} {l : List α} {y : β} : y ∈ l.flatMap f ↔ ∃ x ∈ l, y ∈ f x := List.mem_flatMap
theorem blokM_mem {b : Blok} {z : Str} : z ∈ blokM b ↔ z ∈ blokN b := by
  unfold blokM blokN linesOf
  simp only [List.mem_append, List.mem_flatMap, List.mem_map, List.mem_singleton, rowN]
  constructor
  · rintro (⟨l, (⟨r, hr, rfl⟩ | rfl), hz⟩ | ⟨r, hr, hz⟩)
    · exact .inl ⟨r, hr, .inr hz⟩
    · exact .inr hz
    · exact .inl ⟨r, hr, .inl hz⟩
  · rintro (⟨r, hr, hz | hz⟩ | hz)
    · exact .inr ⟨r, hr, hz⟩
    · exact .inl ⟨_, .inl ⟨r, hr, rfl⟩, hz⟩
    · exact .inl ⟨_, .inr rfl, hz⟩
theorem names_mem {p : Prog} {z : Str} : z ∈ p.params ++ p.blocks.flatMap blokM ↔ z ∈ p.names := by
  unfold Prog.names
  simp only [List.mem_append, List.mem_flatMap, blokM_mem]
theorem lineR_len (l : Ln) : l.reads.length ≤ 2 := by
  cases l with
  | row r =>
    cases r with
    | set x e a b => exact ones_len [a, b]
    | copy x a => exact Nat.le_trans (ones_len [a]) (by simp)
    | tell a => exact Nat.le_trans (ones_len [a]) (by simp)
  | ex e => exact Nat.le_trans (exitR_len e) (by decide)
theorem rowS_len (r : Row) : r.sets.length ≤ 1 := by cases r <;> simp [Row.sets]
theorem blokM_len {b : Blok} (h : b.1.length ≤ 10) : (blokM b).length ≤ 32 := by
  unfold blokM
  rw [List.length_append]
  have h1 := flat_len (f := Ln.reads) (n := 2) lineR_len (linesOf b)
  have h2 := flat_len (f := Row.sets) (n := 1) rowS_len b.1
  have h3 : (linesOf b).length = b.1.length + 1 := by unfold linesOf; simp
  omega
def tellB : D → Bool
  | .tup (.str k :: _) => !(k == "tell")
  | _ => false
def sndD : D → D
  | .tup (_ :: x :: _) => x
  | _ => .non
theorem sets_filt : ∀ rs : List Row, ((rs.map Row.d).filter tellB).map sndD = (rs.flatMap Row.sets).map D.str
  | [] => rfl
  | r :: rs => by
    rw [List.map_cons, List.filter_cons, List.flatMap_cons, List.map_append, ← sets_filt rs]
    cases r <;> rfl
def sp_l_all_names : DSp := fun ds G Q _ => ∃ p : Prog, ds = [p.d] ∧ p.Few ∧ Q (strsL (srtO ltS p.names)) G
theorem len_l_all_names : LenS sp_l_all_names 1 := by rintro ds G Q xq ⟨s, rfl, _⟩; rfl
theorem sz320 {n : Nat} (h : n ≤ 1000) : n ≤ sizeLine := Nat.le_trans h (by decide)
theorem body_l_all_names : BodW [sp_l_reads] [] l_all_namesC 5 sp_l_all_names := by
  rintro ds G Q xq ⟨p, rfl, hp, q⟩
  refine ⟨_, rfl, fun a fa => ?_⟩
  refine ⟨_, rfl, ?_⟩
  have hall : (p.params ++ p.blocks.flatMap blokM).length ≤ 330 := by
    rw [List.length_append]
    have := hp.pl
    have h1 := flat_len' (f := blokM) (n := 32) p.blocks fun b hb => blokM_len (hp.rl b hb)
    have := hp.bl
    omega
  refine for_at (I := fun i ρ G1 => (∃ x2 x3 x4, ρ = [some p.d, some (.ref a), x2, x3, x4]) ∧ G1 = put G a (.lst ((p.params ++ (p.blocks.take i).flatMap blokM).map D.str))) ⟨⟨none, none, none, rfl⟩, by simp⟩ ?_ ?_
  · rintro i x hx ρ G1 N ⟨⟨x2, x3, x4, rfl⟩, rfl⟩ hN
    obtain ⟨b, hb, rfl⟩ := get_map hx
    have hb10 := hp.rl b (List.mem_of_getElem? hb)
    have hlen2 : (p.params ++ (p.blocks.take i).flatMap blokM ++ (linesOf b).flatMap Ln.reads ++ b.1.flatMap Row.sets) = p.params ++ (p.blocks.take (i + 1)).flatMap blokM := by
      rw [flat_take hb]
      simp [blokM]
    have hlen : (p.params ++ (p.blocks.take i).flatMap blokM ++ (linesOf b).flatMap Ln.reads ++ b.1.flatMap Row.sets).length ≤ 330 := by
      rw [hlen2]
      have := flat_take_len (f := blokM) p.blocks (i + 1)
      rw [List.length_append] at hall ⊢
      omega
    simp only [List.length_append] at hlen
    refine ⟨trivial, rfl, ?_⟩
    refine ⟨sz3 1, by simp; exact sz320 (by omega), ?_⟩
    show forS _ _ _ _ (b.1.map Row.d ++ [b.2.d]) _ _
    rw [← linesD]
    refine for_at (I := fun j ρ G1 => (∃ x4, ρ = [some p.d, some (.ref a), some (.tup (b.1.map Row.d)), some b.2.d, x4]) ∧ G1 = put G a (.lst ((p.params ++ (p.blocks.take i).flatMap blokM ++ ((linesOf b).take j).flatMap Ln.reads).map D.str))) ⟨⟨x4, rfl⟩, by simp⟩ ?_ ?_
    · rintro j y hy ρ G1 N2 ⟨⟨x4, rfl⟩, rfl⟩ hN2
      obtain ⟨l, hl, rfl⟩ := get_map hy
      have hl3 := flat_take_len (f := Ln.reads) (linesOf b) (j + 1)
      rw [flat_take hl, List.length_append] at hl3
      refine ⟨trivial, ⟨rfl, _, put_same⟩, l, rfl, _, put_same, ?_, ?_⟩
      · simp only [List.length_map, List.length_append]
        exact sz320 (by omega)
      · refine hN2 _ _ _ .refl ⟨⟨_, rfl⟩, ?_⟩
        rw [put_put, map_app, flat_take hl]
        simp
    · rintro ρ G1 ⟨⟨x4, rfl⟩, rfl⟩
      rw [List.length_map, List.take_length]
      refine ⟨trivial, ⟨rfl, _, put_same⟩, ?_⟩
      show lcS _ _ _ _ _ _ _ _ _
      refine lc_filtV tellB sndD rfl (by rw [List.length_map]; exact Nat.lt_of_le_of_lt hb10 (by decide)) trivial (fun k x hx K N2 n1 n2 => ?_) ?_
      · obtain ⟨r, hr, rfl⟩ := get_map hx
        cases r with
        | set x e a b => exact ⟨_, rfl, _, rfl, n1 rfl⟩
        | copy x a => exact ⟨_, rfl, _, rfl, n1 rfl⟩
        | tell a => exact ⟨_, rfl, n2 rfl⟩
      · rw [sets_filt]
        refine ⟨_, put_same, ?_, ?_⟩
        · simp only [List.length_map, List.length_append]
          exact sz320 (by omega)
        · refine hN _ _ _ .refl ⟨⟨_, _, _, rfl⟩, ?_⟩
          rw [put_put, map_app, hlen2]
  · rintro ρ G1 ⟨⟨x2, x3, x4, rfl⟩, rfl⟩
    rw [List.length_map, List.take_length]
    refine ⟨trivial, a, _, rfl, put_same, ?_⟩
    rw [drop_put fa]
    refine .inr ⟨p.params ++ p.blocks.flatMap blokM, rfl, by omega, ?_, .of ?_⟩
    · rw [srtO_congr linS (m := p.names) fun z => names_mem]
      exact hp.nl
    · rw [srtO_congr linS (m := p.names) fun z => names_mem]
      exact q
end DL

namespace DL
open PySem PySem.Spec PyProof.Rows L2
/-- a comprehension over what stands for xs -/
theorem lc_filtA {α : Type} {g : DG} {tt : DT} {te : DE} {ρ0 : Ev} {keep : Sto → Prop} {fin : List D → Sto → Prop} {G : Sto} (enc : α → D) (b : α → Bool) (f : α → D) {xs : List α} {items0 : List D} (he : items0 = xs.map enc) (hl : xs.length < sizeLine) (hk : keep G)
    (step : ∀ (i : Nat) (x : α), xs[i]? = some x → ∀ (K : D → Sto → Prop) (N : Sto → Prop), (b x = true → K (f x) G) → (b x = false → N G) → g (enc x) ρ0 G (fun ρ1 G1 => tt ρ1 G1 (fun c G2 => if c = true then te ρ1 G2 K (fun _ _ => False) else N G2) (fun _ _ => False)) (fun _ _ _ => False))
    (h : fin ((xs.filter b).map f) G) : lcS g tt te ρ0 keep fin items0 [] G := by
  cases he
  refine lc_ix (I := fun k acc G1 => acc = ((xs.take k).filter b).map f ∧ G1 = G) 0 ⟨rfl, rfl⟩ ?_ ?_
  · rintro i x hx acc G1 N ⟨rfl, rfl⟩ hN
    rw [Nat.zero_add] at hN ⊢
    obtain ⟨y, hy, rfl⟩ := get_map hx
    have hi := (List.getElem?_eq_some_iff.mp hy).1
    refine ⟨hk, step i y hy (fun d G3 => (((xs.take i).filter b).map f).length < sizeLine ∧ N (((xs.take i).filter b).map f ++ [d]) G3) _ (fun hb => ⟨?_, hN _ _ ⟨?_, rfl⟩⟩) (fun hb => hN _ _ ⟨?_, rfl⟩)⟩
    · rw [List.length_map]
      exact Nat.lt_of_le_of_lt (List.length_filter_le _ _) (by rw [List.length_take]; omega)
    · rw [List.take_add_one, hy]
      simp [hb]
    · rw [List.take_add_one, hy]
      simp [hb]
  · rintro acc G1 ⟨rfl, rfl⟩
    rw [Nat.zero_add, List.length_map, List.take_length]
    exact ⟨hk, h⟩
theorem lc_mapA {α : Type} {g : DG} {te : DE} {ρ0 : Ev} {keep : Sto → Prop} {fin : List D → Sto → Prop} {G : Sto} (enc f : α → D) {xs : List α} {items0 : List D} (he : items0 = xs.map enc) (hl : xs.length < sizeLine) (hk : keep G)
    (step : ∀ (i : Nat) (x : α), xs[i]? = some x → ∀ K : D → Sto → Prop, K (f x) G → g (enc x) ρ0 G (fun ρ1 G1 => te ρ1 G1 K (fun _ _ => False)) (fun _ _ _ => False))
    (h : fin (xs.map f) G) : lcS g dYes te ρ0 keep fin items0 [] G := by
  cases he
  refine lc_ix (I := fun k acc G1 => acc = (xs.take k).map f ∧ G1 = G) 0 ⟨rfl, rfl⟩ ?_ ?_
  · rintro i x hx acc G1 N ⟨rfl, rfl⟩ hN
    rw [Nat.zero_add] at hN ⊢
    obtain ⟨y, hy, rfl⟩ := get_map hx
    have hi := (List.getElem?_eq_some_iff.mp hy).1
    refine ⟨hk, step i y hy (fun d G3 => ((xs.take i).map f).length < sizeLine ∧ N ((xs.take i).map f ++ [d]) G3) ⟨?_, hN _ _ ⟨?_, rfl⟩⟩⟩
    · rw [List.length_map, List.length_take]
      omega
    · rw [List.take_add_one, hy]
      simp
  · rintro acc G1 ⟨rfl, rfl⟩
    rw [Nat.zero_add, List.length_map, List.take_length]
    exact ⟨hk, h⟩
theorem iteY {c : Bool} {A B : Prop} (h : c = true) (a : A) : if c = true then A else B := by
  rw [h]
  exact iteT a
theorem filt_empty {α : Type} (b : α → Bool) (f : α → D) : ∀ xs : List α, ((xs.filter b).map f).isEmpty = !xs.any b
  | [] => rfl
  | x :: xs => by
    rw [List.filter_cons, List.any_cons]
    cases e : b x with
    | true => simp
    | false =>
      rw [if_neg (by simp), filt_empty b f xs]
      simp
/-! blocks to which a name comes unset, by the law's own walk -/
def natD (n : Nat) : D := .int (n : Nat)
def pushN (s : List Nat × List Nat) (k : Nat) : List Nat × List Nat := if k ∈ s.1 then s else (s.1 ++ [k], s.2 ++ [k])
def setsIn (x : Str) (b : Blok) : Bool := b.1.any fun r => setsB (.row r) x
def stepU (p : Prog) (x : Str) (s : List Nat × List Nat) : List Nat × List Nat :=
  match s.2.getLast? with
  | none => s
  | some b => match p.blocks[b]? with
    | none => (s.1, s.2.dropLast)
    | some bl => if setsIn x bl = true then (s.1, s.2.dropLast) else bl.2.led.foldl pushN (s.1, s.2.dropLast)
def goU (p : Prog) (x : Str) : Nat → List Nat × List Nat → List Nat
  | 0, s => s.1
  | f + 1, s => if s.2 = [] then s.1 else goU p x f (stepU p x s)
def unsetB (p : Prog) (x : Str) : List Nat := if x ∈ p.params then [] else goU p x (2 * p.blocks.length + 2) ([0], [0])
/-- exits lead to blocks -/
structure Prog.Led (p : Prog) : Prop where
  ne : 1 ≤ p.blocks.length
  led : ∀ b ∈ p.blocks, ∀ k ∈ b.2.led, k < p.blocks.length
def StU (p : Prog) (s : List Nat × List Nat) : Prop := s.1.Nodup ∧ (∀ k ∈ s.1, k < p.blocks.length) ∧ ∀ k ∈ s.2, k ∈ s.1
def meaU (p : Prog) (s : List Nat × List Nat) : Nat := 2 * (p.blocks.length - s.1.length) + s.2.length
theorem StU.len {p : Prog} {s : List Nat × List Nat} (h : StU p s) : s.1.length ≤ p.blocks.length := by
  have := h.1.length_le_of_subset (l₂ := List.range p.blocks.length) fun k hk => List.mem_range.mpr (h.2.1 k hk)
  rwa [List.length_range] at this
theorem StU.push {p : Prog} {s : List Nat × List Nat} {k : Nat} (h : StU p s) (hk : k < p.blocks.length) : StU p (pushN s k) ∧ meaU p (pushN s k) ≤ meaU p s := by
  unfold pushN
  split
  · exact ⟨h, Nat.le_refl _⟩
  · rename_i n
    have h' : StU p (s.1 ++ [k], s.2 ++ [k]) := by
      refine ⟨?_, fun j hj => ?_, fun j hj => ?_⟩
      · rw [List.nodup_append]
        exact ⟨h.1, by simp, fun a ha b hb => by rw [List.mem_singleton] at hb; subst hb; intro e; subst e; exact n ha⟩
      · rcases List.mem_append.mp hj with hj | hj
        · exact h.2.1 j hj
        · rw [List.mem_singleton] at hj; rw [hj]; exact hk
      · rcases List.mem_append.mp hj with hj | hj
        · exact List.mem_append.mpr (.inl (h.2.2 j hj))
        · exact List.mem_append.mpr (.inr hj)
    refine ⟨h', ?_⟩
    have := h'.len
    unfold meaU
    simp only [List.length_append, List.length_singleton] at this ⊢
    omega
theorem StU.pushes {p : Prog} : ∀ {ks : List Nat} {s : List Nat × List Nat}, StU p s → (∀ k ∈ ks, k < p.blocks.length) → StU p (ks.foldl pushN s) ∧ meaU p (ks.foldl pushN s) ≤ meaU p s
  | [], s, h, _ => ⟨h, Nat.le_refl _⟩
  | k :: ks, s, h, hk => by
    obtain ⟨h1, h2⟩ := h.push (hk k (by simp))
    obtain ⟨h3, h4⟩ := StU.pushes (ks := ks) h1 fun j hj => hk j (by simp [hj])
    exact ⟨h3, Nat.le_trans h4 h2⟩
theorem StU.pop {p : Prog} {s : List Nat × List Nat} (h : StU p s) : StU p (s.1, s.2.dropLast) := ⟨h.1, h.2.1, fun k hk => h.2.2 k (List.dropLast_subset _ hk)⟩
theorem mea_pop {p : Prog} {s : List Nat × List Nat} (hn : s.2 ≠ []) : meaU p (s.1, s.2.dropLast) + 1 = meaU p s := by
  unfold meaU
  have : 0 < s.2.length := List.length_pos_iff.mpr hn
  simp only [List.length_dropLast]
  omega
theorem goU_end {p : Prog} {x : Str} {f : Nat} {s : List Nat × List Nat} (h : s.2 = []) : goU p x f s = s.1 := by
  cases f with
  | zero => rfl
  | succ f => unfold goU; rw [if_pos h]
def sp_l_unset_blocks : DSp := fun ds G Q _ => ∃ (p : Prog) (x : Str), ds = [p.d, .str x] ∧ p.Led ∧ p.Few ∧ Q (natsL (unsetB p x)) G
theorem len_l_unset_blocks : LenS sp_l_unset_blocks 2 := by rintro ds G Q xq ⟨s, x, rfl, _⟩; rfl
theorem strs_flat (ts : List Str) : (ts.map D.str).all flatD = true := List.all_eq_true.mpr fun d hd => by
  obtain ⟨t, _, rfl⟩ := List.mem_map.mp hd
  rfl
theorem memF_str {t : Str} {ts : List Str} : memF (.str t) (ts.map D.str) = decide (t ∈ ts) := by
  rw [Bool.eq_iff_iff]
  unfold memF
  rw [List.any_eq_true, decide_eq_true_eq]
  constructor
  · rintro ⟨y, hy, e⟩
    obtain ⟨z, hz, rfl⟩ := List.mem_map.mp hy
    have : z = t := eq_of_beq e
    exact this ▸ hz
  · intro h
    exact ⟨.str t, List.mem_map.mpr ⟨t, h, rfl⟩, beq_self_eq_true t⟩
theorem nats_flat (ts : List Nat) : (ts.map natD).all flatD = true := List.all_eq_true.mpr fun d hd => by
  obtain ⟨t, _, rfl⟩ := List.mem_map.mp hd
  rfl
theorem memF_nat {t : Nat} {ts : List Nat} : memF (natD t) (ts.map natD) = decide (t ∈ ts) := by
  rw [Bool.eq_iff_iff]
  unfold memF
  rw [List.any_eq_true, decide_eq_true_eq]
  constructor
  · rintro ⟨y, hy, e⟩
    obtain ⟨z, hz, rfl⟩ := List.mem_map.mp hy
    have : (z : Int) = t := eq_of_beq e
    have : z = t := by omega
    exact this ▸ hz
  · intro h
    exact ⟨natD t, List.mem_map.mpr ⟨t, h, rfl⟩, beq_self_eq_true (t : Int)⟩
theorem map_appN (a b : List Nat) : a.map natD ++ b.map natD = (a ++ b).map natD := (List.map_append ..).symm
theorem getLast_at {α : Type} {l : List α} (h : l ≠ []) : ∃ x, l[l.length - 1]? = some x ∧ l.getLast? = some x := by
  have hl : l.length - 1 < l.length := by have := List.length_pos_iff.mpr h; omega
  exact ⟨l[l.length - 1], List.getElem?_eq_getElem hl, by rw [List.getLast?_eq_getElem?, List.getElem?_eq_getElem hl]⟩
set_option maxHeartbeats 0 in
theorem body_l_unset_blocks : BodW [sp_l_sets, sp_l_led] [] l_unset_blocksC 8 sp_l_unset_blocks := by
  rintro ds G Q xq ⟨p, x, rfl, hL, hF, q⟩
  refine ⟨_, rfl, rfl, strs_flat _, ?_⟩
  refine ite2 (fun h => ?_) (fun h => ?_)
  · have hx : x ∈ p.params := by
      have h : memF (.str x) (p.params.map D.str) = true := h
      rw [memF_str] at h
      exact of_decide_eq_true h
    unfold unsetB at q
    rw [if_pos hx] at q
    exact ⟨sz3 0, .of q⟩
  have hx : ¬ x ∈ p.params := fun z => h (by
    show memF (.str x) (p.params.map D.str) = true
    rw [memF_str]
    exact decide_eq_true z)
  unfold unsetB at q
  rw [if_neg hx] at q
  refine ⟨sz3 1, fun a fa => ⟨sz3 1, fun c fc => ?_⟩⟩
  have hac : c ≠ a := fun z => by
    subst z
    rw [put_same] at fc
    cases fc
  have fc0 : G c = none := by rw [put_ne hac] at fc; exact fc
  have swap : ∀ u v w : Cl, put (put (put G a u) c v) a w = put (put G a w) c v := fun u v w => by
    funext b
    unfold put
    by_cases h1 : b = a
    · subst h1
      rw [if_pos rfl, if_neg (Ne.symm hac), if_pos rfl]
    · by_cases h2 : b = c
      · rw [if_neg h1, if_pos h2, if_pos h2]
      · rw [if_neg h1, if_neg h2, if_neg h1, if_neg h2, if_neg h1]
  have atA : ∀ u v : Cl, put (put G a u) c v a = some u := fun u v => by rw [put_ne (Ne.symm hac)]; exact put_same
  show sWhile _ _ _ _ _
  refine while_op (W := fun m ρ G1 => ∃ s, StU p s ∧ m = meaU p s ∧ m ≤ 2 * p.blocks.length + 2 ∧ (∃ f, m ≤ f ∧ goU p x f s = goU p x (2 * p.blocks.length + 2) ([0], [0])) ∧ (∃ x4 x5 x6 x7, ρ = [some p.d, some (.str x), some (.ref a), some (.ref c), x4, x5, x6, x7]) ∧ G1 = put (put G a (.lst (s.1.map natD))) c (.lst (s.2.map natD))) (m0 := meaU p ([0], [0])) ?_ ?_
  · exact ⟨([0], [0]), ⟨by simp, fun k hk => by have := hL.ne; simp at hk; omega, fun k hk => hk⟩, rfl, by unfold meaU; simp; omega, ⟨_, by unfold meaU; simp; omega, rfl⟩, ⟨none, none, none, none, rfl⟩, rfl⟩
  rintro m ρ G1 E ⟨s, hS, rfl, hm, ⟨f, hf, hg⟩, ⟨x4, x5, x6, x7, rfl⟩, rfl⟩ eN eC eR eB eX
  refine ⟨sz3 0, _, put_same, ?_⟩
  have hw : s.2.length ≤ 22 := by
    have := hF.bl
    unfold meaU at hm
    omega
  refine ite2 (fun h => ?_) (fun h => ?_)
  · have hne : s.2 ≠ [] := fun z => by
      rw [z] at h
      exact absurd h (by decide)
    obtain ⟨b, hb1, hb2⟩ := getLast_at hne
    have hbm : b ∈ s.2 := List.mem_of_getElem? hb1
    have hbl := hS.2.1 b (hS.2.2 b hbm)
    obtain ⟨bl, hbl2⟩ : ∃ bl, p.blocks[b]? = some bl := ⟨_, List.getElem?_eq_getElem hbl⟩
    have hblm := List.mem_of_getElem? hbl2
    have hat : atI (p.blocks.map blokD) (b : Int) = some (blokD bl) := atI_nat (by rw [List.getElem?_map, hbl2]; rfl)
    have hpop : (s.2.map natD)[(s.2.map natD).length - 1]? = some (natD b) := by rw [List.length_map, List.getElem?_map, hb1]; rfl
    -- the popped state
    have hstep : stepU p x s = if setsIn x bl = true then (s.1, s.2.dropLast) else bl.2.led.foldl pushN (s.1, s.2.dropLast) := by
      unfold stepU
      rw [hb2]
      simp only [hbl2]
    obtain ⟨f', rfl⟩ : ∃ f', f = f' + 1 := by
      have := mea_pop (p := p) hne
      exact ⟨f - 1, by omega⟩
    have hg' : goU p x f' (stepU p x s) = goU p x (2 * p.blocks.length + 2) ([0], [0]) := by
      rw [← hg]
      conv => rhs; unfold goU
      rw [if_neg hne]
    have mp := mea_pop (p := p) hne
    refine ⟨_, rfl, ⟨rfl, _, put_same⟩, _, _, put_same, hpop, ?_⟩
    rw [put_put, ← List.map_dropLast]
    refine ⟨_, hat, rfl, ?_⟩
    show lcS _ _ _ _ _ _ _ _ _
    refine lc_filtA Row.d (fun r => setsB (.row r) x) Row.d rfl (Nat.lt_of_le_of_lt (hF.rl bl hblm) (by decide)) trivial (fun k r hr K N n1 n2 => ?_) ?_
    · refine ⟨.row r, x, rfl, ?_⟩
      cases e : setsB (.row r) x with
      | true => exact n1 e
      | false => exact n2 e
    refine ⟨sz3 0, ?_⟩
    show if (List.isEmpty ((bl.1.filter fun r => setsB (.row r) x).map Row.d)) = true then _ else _
    rw [filt_empty]
    have hsi : (bl.1.any fun r => setsB (.row r) x) = setsIn x bl := rfl
    rw [hsi]
    cases es : setsIn x bl with
    | true =>
      rw [es] at hstep
      rw [hstep] at hg'
      refine iteN rfl ?_
      exact eN _ _ _ _ (by rw [← mp]; exact Nat.lt_succ_self _) .refl ⟨(s.1, s.2.dropLast), hS.pop, rfl, by omega, ⟨f', by omega, hg'⟩, ⟨_, _, _, _, rfl⟩, rfl⟩
    | false =>
      rw [es] at hstep
      rw [hstep] at hg'
      refine iteY rfl ?_
      refine ⟨bl.2, rfl, ?_⟩
      show forS _ _ _ _ (bl.2.led.map natD) _ _
      obtain ⟨hS2, hm2⟩ := hS.pop.pushes (hL.led bl hblm)
      refine for_op (I := fun k ρ G1 => (∃ x6 x7, ρ = [some p.d, some (.str x), some (.ref a), some (.ref c), some (.tup (bl.1.map Row.d)), some bl.2.d, x6, x7]) ∧ ∃ s', s' = (bl.2.led.take k).foldl pushN (s.1, s.2.dropLast) ∧ StU p s' ∧ meaU p s' ≤ meaU p (s.1, s.2.dropLast) ∧ G1 = put (put G a (.lst (s'.1.map natD))) c (.lst (s'.2.map natD))) ⟨⟨_, _, rfl⟩, _, rfl, hS.pop, Nat.le_refl _, rfl⟩ ?_ ?_
      · rintro k y hy ρ G1 E2 ⟨⟨x6, x7, rfl⟩, s', hs', hS', hm', rfl⟩ hN hC hR hB hX
        obtain ⟨n, hn, rfl⟩ := get_map hy
        have hnl := hL.led bl hblm n (List.mem_of_getElem? hn)
        obtain ⟨hS3, hm3⟩ := hS'.push hnl
        have hl1 := hS'.len
        have hbl10 := hF.bl
        have hl2 : s'.2.length ≤ 22 := by
          have e1 : s'.2.length ≤ meaU p s' := by unfold meaU; omega
          omega
        have hnx : pushN s' n = (bl.2.led.take (k + 1)).foldl pushN (s.1, s.2.dropLast) := by
          rw [← take_snoc hn, List.foldl_append, ← hs']
          rfl
        refine ⟨trivial, .inl ⟨_, atA _ _, rfl, nats_flat _, ?_⟩⟩
        refine ite2 (fun h => ?_) (fun h => ?_)
        · have hin : ¬ n ∈ s'.1 := fun z => by
            have h : (!memF (natD n) (s'.1.map natD)) = true := h
            rw [memF_nat, decide_eq_true z] at h
            cases h
          refine ⟨⟨rfl, _, atA _ _⟩, _, atA _ _, by rw [List.length_map]; exact Nat.lt_of_le_of_lt (Nat.le_trans hl1 hbl10) (by decide), ?_⟩
          rw [swap]
          refine ⟨⟨rfl, _, put_same⟩, _, put_same, by rw [List.length_map]; exact Nat.lt_of_le_of_lt hl2 (by decide), ?_⟩
          rw [put_put]
          have e3 : pushN s' n = (s'.1 ++ [n], s'.2 ++ [n]) := by unfold pushN; rw [if_neg hin]
          refine hN _ _ _ .refl ⟨⟨_, _, rfl⟩, pushN s' n, hnx, hS3, Nat.le_trans hm3 hm', ?_⟩
          rw [e3]
          simp only [List.map_append]
          rfl
        · have hin : n ∈ s'.1 := by
            cases hd : decide (n ∈ s'.1) with
            | true => exact of_decide_eq_true hd
            | false =>
              refine (h ?_).elim
              show (!memF (natD n) (s'.1.map natD)) = true
              rw [memF_nat, hd]
              rfl
          refine hN _ _ _ .refl ⟨⟨_, _, rfl⟩, s', ?_, hS', hm', rfl⟩
          rw [← hnx]
          unfold pushN
          rw [if_pos hin]
      · rintro ρ G1 ⟨⟨x6, x7, rfl⟩, s', hs', hS', hm', rfl⟩
        rw [List.length_map, List.take_length] at hs'
        refine ⟨trivial, eN _ _ _ _ (by omega) .refl ⟨s', hS', rfl, by omega, ⟨f', by omega, ?_⟩, ⟨_, _, _, _, rfl⟩, rfl⟩⟩
        rw [hs']
        exact hg'
  · have hne : s.2 = [] := by
      cases e : s.2 with
      | nil => rfl
      | cons y ys => rw [e] at h; exact absurd rfl h
    refine ⟨a, _, rfl, atA _ _, ?_⟩
    have e : goU p x f s = s.1 := goU_end hne
    rw [← hg, e] at q
    refine ⟨G, ?_, q⟩
    intro b cl hb
    have nb1 : b ≠ a := fun z => by subst z; rw [fa] at hb; cases hb
    have nb2 : b ≠ c := fun z => by subst z; rw [fc0] at hb; cases hb
    rw [drop_ne nb1, put_ne nb2, put_ne nb1]
    exact hb
end DL

namespace DL
open PySem PySem.Spec PyProof.Rows L2
/-! the first name that may be unset, by the law -/
def noneAhead (bl : Blok) (r : Nat) (x : Str) : Bool := !((linesOf bl).take r).any fun l => setsB l x
def hitB (p : Prog) (bl : Blok) (b r : Nat) (x : Str) : Bool := decide (b ∈ unsetB p x) && noneAhead bl r x
def HitR (p : Prog) (b r : Nat) : Prop := ∃ bl l x, p.blocks[b]? = some bl ∧ (linesOf bl)[r]? = some l ∧ x ∈ l.reads ∧ hitB p bl b r x = true
def UnsetIs (p : Prog) (o : Option (Nat × Nat)) : Prop := (o = none ∧ ∀ b r, ¬ HitR p b r) ∨ ∃ b r, o = some (b, r) ∧ HitR p b r ∧ ∀ b' r', (b' < b ∨ (b' = b ∧ r' < r)) → ¬ HitR p b' r'
theorem UnsetIs.uniq {p : Prog} {o o' : Option (Nat × Nat)} (h : UnsetIs p o) (h' : UnsetIs p o') : o = o' := by
  rcases h with ⟨rfl, h⟩ | ⟨b, r, rfl, h1, h2⟩
  · rcases h' with ⟨rfl, _⟩ | ⟨b', r', rfl, h1', _⟩
    · rfl
    · exact (h _ _ h1').elim
  · rcases h' with ⟨rfl, h⟩ | ⟨b', r', rfl, h1', h2'⟩
    · exact (h _ _ h1).elim
    · by_cases e : b = b' ∧ r = r'
      · rw [e.1, e.2]
      · by_cases l : b < b' ∨ (b = b' ∧ r < r')
        · exact (h2' b r l h1).elim
        · exact (h2 b' r' (by omega) h1').elim
def placeD : Option (Nat × Nat) → D
  | none => .non
  | some (b, r) => .tup [natD b, natD r]
theorem unlike_of : ∀ {xs : List Str}, xs.Nodup → unlike (xs.map (Sum.inr : Str → Key)) = true
  | [], _ => rfl
  | x :: xs, h => by
    have h' := List.nodup_cons.mp h
    rw [List.map_cons]
    unfold unlike
    rw [Bool.and_eq_true, Bool.not_eq_true', List.any_eq_false]
    refine ⟨fun k hk z => ?_, unlike_of h'.2⟩
    obtain ⟨y, hy, rfl⟩ := List.mem_map.mp hk
    have e := keq_iff.mp z
    cases e
    exact h'.1 hy
theorem val_names {f : Str → D} : ∀ {xs : List Str} {x : Str}, x ∈ xs → valD (xs.map fun y => ((Sum.inr y : Key), f y)) (.inr x) = some (f x)
  | [], x, h => by cases h
  | y :: xs, x, h => by
    unfold valD
    rw [List.map_cons, List.find?_cons]
    by_cases e : y = x
    · subst e
      simp
    · have h2 : x ∈ xs := by
        rcases List.mem_cons.mp h with z | z
        · exact (e z.symm).elim
        · exact z
      have ih := val_names (f := f) h2
      unfold valD at ih
      have ne : decide ((Sum.inr y : Key) = .inr x) = false := decide_eq_false fun z => e (by cases z; rfl)
      simp only [ne]
      exact ih
theorem reads_names {p : Prog} {b r : Nat} {bl : Blok} {l : Ln} {x : Str} (h1 : p.blocks[b]? = some bl) (h2 : (linesOf bl)[r]? = some l) (h3 : x ∈ l.reads) : x ∈ p.names := by
  refine names_mem.mp (List.mem_append.mpr (.inr (mem_flat.mpr ⟨bl, List.mem_of_getElem? h1, ?_⟩)))
  unfold blokM
  exact List.mem_append.mpr (.inl (mem_flat.mpr ⟨l, List.mem_of_getElem? h2, h3⟩))
theorem lines_len (b : Blok) : (linesOf b).length = b.1.length + 1 := by unfold linesOf; simp
theorem enum_get {ds : List D} {i : Nat} {x : D} (h : (enumD ds)[i]? = some x) : ∃ d, ds[i]? = some d ∧ x = .tup [natD i, d] := by
  unfold enumD at h
  rw [List.getElem?_mapIdx] at h
  cases e : ds[i]? with
  | none => rw [e] at h; cases h
  | some d => rw [e] at h; exact ⟨d, rfl, (Option.some.inj h).symm⟩
theorem cut_hi (xs : List D) {j : Nat} (h : j ≤ xs.length) : cutD xs none (some (j : Int)) = xs.take j := by
  unfold cutD
  have h0 : HT.sIx xs.length 0 none = 0 := rfl
  have h1 : HT.sIx xs.length xs.length (some (j : Int)) = j := by
    unfold HT.sIx
    simp
    rw [if_neg (by omega)]
    omega
  rw [h0, h1, List.drop_zero, Nat.sub_zero]
theorem cut_lo (xs : List D) {j : Nat} (h : j ≤ xs.length) : cutD xs (some (j : Int)) none = xs.drop j := by
  unfold cutD
  have h0 : HT.sIx xs.length 0 (some (j : Int)) = j := by
    unfold HT.sIx
    simp
    rw [if_neg (by omega)]
    omega
  have h1 : HT.sIx xs.length xs.length none = xs.length := rfl
  rw [h0, h1]
  exact List.take_of_length_le (by rw [List.length_drop]; omega)
def sp_l_unset : DSp := fun ds G Q _ => ∃ p : Prog, ds = [p.d] ∧ p.Led ∧ p.Few ∧ ∀ o, UnsetIs p o → Q (placeD o) G
theorem len_l_unset : LenS sp_l_unset 1 := by rintro ds G Q xq ⟨s, rfl, _⟩; rfl
set_option maxHeartbeats 0 in
theorem body_l_unset : BodW [sp_l_reads, sp_l_sets, sp_l_all_names, sp_l_unset_blocks] [] l_unsetC 10 sp_l_unset := by
  rintro ds G Q xq ⟨p, rfl, hL, hF, q⟩
  refine ⟨p, rfl, hF, ?_⟩
  show lcS _ _ _ _ _ _ _ _ _
  have hnl : (srtO ltS p.names).length < 64 := hF.nl
  refine lc_mapA D.str (fun x => .tup [.str x, natsL (unsetB p x)]) rfl (Nat.lt_of_lt_of_le hnl (by decide)) trivial (fun i x hx K k => ⟨p, x, rfl, hL, hF, sz3 2, k⟩) ?_
  refine ⟨(srtO ltS p.names).map fun x => (.inr x, natsL (unsetB p x)), by unfold pairsD; rw [List.map_map]; rfl, fun a fa => ?_⟩
  rw [mergeD_app _ [] (by rw [List.map_map]; exact unlike_of (srtO_nodup linS)) (fun _ z => by cases z), List.nil_append]
  have hdn : Dn (put G a (.dK ((srtO ltS p.names).map fun x => (.inr x, natsL (unsetB p x))))) G := .new fa
  refine ⟨_, rfl, ?_⟩
  show forS _ _ _ _ _ _ _
  refine for_op (I := fun i ρ G1 => (∃ x2 x3 x4 x5 x6 x7 x8 x9, ρ = [some p.d, some (.ref a), x2, x3, x4, x5, x6, x7, x8, x9]) ∧ G1 = put G a (.dK ((srtO ltS p.names).map fun x => (.inr x, natsL (unsetB p x)))) ∧ ∀ b r, b < i → ¬ HitR p b r) ?_ ?_ ?_
  · exact ⟨⟨_, _, _, _, _, _, _, _, rfl⟩, rfl, fun b r h => absurd h (by omega)⟩
  · rintro b x hx ρ G1 E ⟨⟨x2, x3, x4, x5, x6, x7, x8, x9, rfl⟩, rfl, hno⟩ eN eC eR eB eX
    obtain ⟨d, hd, rfl⟩ := enum_get hx
    obtain ⟨bl, hb, rfl⟩ := get_map hd
    have hb10 := hF.rl bl (List.mem_of_getElem? hb)
    refine ⟨trivial, rfl, _, rfl, _, rfl, sz3 1, by simp; exact sz320 (by omega), ?_⟩
    rw [← linesD]
    show forS _ _ _ _ _ _ _
    refine for_op (I := fun r ρ G1 => (∃ x5 x6 x7 x8 x9, ρ = [some p.d, some (.ref a), some (natD b), some (blokD bl), some (.rl ((linesOf bl).map Ln.d)), x5, x6, x7, x8, x9]) ∧ G1 = put G a (.dK ((srtO ltS p.names).map fun x => (.inr x, natsL (unsetB p x)))) ∧ ∀ r', r' < r → ¬ HitR p b r') ?_ ?_ ?_
    · exact ⟨⟨_, _, _, _, _, rfl⟩, rfl, fun r h => absurd h (by omega)⟩
    · rintro r x hx ρ G1 E2 ⟨⟨x5, x6, x7, x8, x9, rfl⟩, rfl, hno2⟩ e2N e2C e2R e2B e2X
      obtain ⟨d, hd, rfl⟩ := enum_get hx
      obtain ⟨l, hl, rfl⟩ := get_map hd
      have hrl := (List.getElem?_eq_some_iff.mp hl).1
      refine ⟨trivial, rfl, l, rfl, ?_⟩
      show forS _ _ _ _ (l.reads.map D.str) _ _
      refine for_op (I := fun k ρ G1 => (∃ x7 x8 x9, ρ = [some p.d, some (.ref a), some (natD b), some (blokD bl), some (.rl ((linesOf bl).map Ln.d)), some (natD r), some l.d, x7, x8, x9]) ∧ G1 = put G a (.dK ((srtO ltS p.names).map fun x => (.inr x, natsL (unsetB p x)))) ∧ ∀ x ∈ l.reads.take k, hitB p bl b r x = false) ?_ ?_ ?_
      · exact ⟨⟨_, _, _, rfl⟩, rfl, fun x h => by simp at h⟩
      · rintro k x hx ρ G1 E3 ⟨⟨x7, x8, x9, rfl⟩, rfl, hno3⟩ e3N e3C e3R e3B e3X
        obtain ⟨x, hk, rfl⟩ := get_map hx
        have hxm := List.mem_of_getElem? hk
        have hxn : x ∈ srtO ltS p.names := (mem_srtO linS).mpr (reads_names hb hl hxm)
        refine ⟨trivial, ?_⟩
        show lcS _ _ _ _ _ _ _ _ _
        refine lc_filtA Ln.d (fun l => setsB l x) Ln.d (xs := (linesOf bl).take r) (by rw [cut_hi _ (by rw [List.length_map]; omega), List.map_take]) (by rw [List.length_take, lines_len]; exact Nat.lt_of_le_of_lt (show _ ≤ 11 by omega) (by decide)) trivial (fun i l' hl' K N n1 n2 => ?_) ?_
        · refine ⟨l', x, rfl, ?_⟩
          cases e : setsB l' x with
          | true => exact n1 e
          | false => exact n2 e
        have nx : hitB p bl b r x = false → ∀ y ∈ l.reads.take (k + 1), hitB p bl b r y = false := fun h y hy => by
          rw [← take_snoc hk] at hy
          rcases List.mem_append.mp hy with hy | hy
          · exact hno3 y hy
          · rw [List.mem_singleton] at hy
            rw [hy]
            exact h
        refine ⟨_, _, put_same, val_names hxn, rfl, nats_flat _, ?_⟩
        refine ite2 (fun h => ?_) (fun h => ?_)
        · have h : memF (natD b) ((unsetB p x).map natD) = true := h
          rw [memF_nat] at h
          refine ⟨sz3 0, ?_⟩
          refine ite2 (fun h2 => ?_) (fun h2 => ?_)
          · have h2 : (List.isEmpty ((((linesOf bl).take r).filter fun l => setsB l x).map Ln.d)) = true := h2
            rw [filt_empty] at h2
            have hit : hitB p bl b r x = true := by
              unfold hitB noneAhead
              rw [h, h2]
              rfl
            refine ⟨sz3 2, e3R _ _ (e2R _ _ (eR _ _ ⟨G, hdn, q (some (b, r)) (.inr ⟨b, r, rfl, ⟨bl, l, x, hb, hl, hxm, hit⟩, fun b' r' z => ?_⟩)⟩))⟩
            rcases z with z | ⟨rfl, z⟩
            · exact hno b' r' z
            · exact hno2 r' z
          · have h2 : ¬ (List.isEmpty ((((linesOf bl).take r).filter fun l => setsB l x).map Ln.d)) = true := h2
            rw [filt_empty] at h2
            refine e3N _ _ _ .refl ⟨⟨_, _, _, rfl⟩, rfl, nx ?_⟩
            unfold hitB noneAhead
            rw [h]
            cases e : (!((linesOf bl).take r).any fun l => setsB l x) with
            | true => exact (h2 e).elim
            | false => rfl
        · have h : ¬ memF (natD b) ((unsetB p x).map natD) = true := h
          rw [memF_nat] at h
          refine e3N _ _ _ .refl ⟨⟨_, _, _, rfl⟩, rfl, nx ?_⟩
          unfold hitB
          cases e : decide (b ∈ unsetB p x) with
          | true => exact (h e).elim
          | false => rfl
      · rintro ρ G1 ⟨⟨x7, x8, x9, rfl⟩, rfl, hno3⟩
        rw [List.length_map, List.take_length] at hno3
        refine ⟨trivial, e2N _ _ _ .refl ⟨⟨_, _, _, _, _, rfl⟩, rfl, fun r' h' => ?_⟩⟩
        by_cases e : r' = r
        · subst e
          rintro ⟨bl', l', x, g1, g2, g3, g4⟩
          rw [hb] at g1
          cases g1
          rw [hl] at g2
          cases g2
          rw [hno3 x g3] at g4
          cases g4
        · exact hno2 r' (by omega)
    · rintro ρ G1 ⟨⟨x5, x6, x7, x8, x9, rfl⟩, rfl, hno2⟩
      rw [enumD_len, List.length_map] at hno2
      refine ⟨trivial, eN _ _ _ .refl ⟨⟨_, _, _, _, _, _, _, _, rfl⟩, rfl, fun b' r' h' => ?_⟩⟩
      by_cases e : b' = b
      · subst e
        by_cases h2 : r' < (linesOf bl).length
        · exact hno2 r' h2
        · rintro ⟨bl', l', x, g1, g2, g3, g4⟩
          rw [hb] at g1
          cases g1
          exact h2 (List.getElem?_eq_some_iff.mp g2).1
      · exact hno b' r' (by omega)
  · rintro ρ G1 ⟨⟨x2, x3, x4, x5, x6, x7, x8, x9, rfl⟩, rfl, hno⟩
    rw [enumD_len, List.length_map] at hno
    refine ⟨trivial, G, hdn, q none (.inl ⟨rfl, fun b r h => ?_⟩)⟩
    obtain ⟨bl', l', x, g1, g2, g3, g4⟩ := h
    exact hno b r (List.getElem?_eq_some_iff.mp g1).1 ⟨bl', l', x, g1, g2, g3, g4⟩
end DL

namespace DL
open PySem PySem.Spec PyProof.Rows L2
/-! names turned to worths -/
def One.mend (ns : List Str) : One → One
  | .nm x => if x ∈ ns then .wo 7 else .nm x
  | .wo n => .wo n
def Row.mend (ns : List Str) : Row → Row
  | .set x d a b => .set x d (a.mend ns) (b.mend ns)
  | .copy x a => .copy x (a.mend ns)
  | .tell a => .tell (a.mend ns)
def Exit.mend (ns : List Str) : Exit → Exit
  | .iff a b c => .iff (a.mend ns) b c
  | e => e
def Ln.mend (ns : List Str) : Ln → Ln
  | .row r => .row (r.mend ns)
  | .ex e => .ex (e.mend ns)
def Ln.hasOnes : Ln → Bool
  | .row _ => true
  | .ex (.iff _ _ _) => true
  | _ => false
theorem memF_one {o : One} {ns : List Str} : memF o.d (ns.map D.str) = match o with | .nm x => decide (x ∈ ns) | .wo _ => false := by
  cases o with
  | nm x => exact memF_str
  | wo n =>
    show memF (.int n) (ns.map D.str) = false
    unfold memF
    rw [List.any_eq_false]
    intro d hd
    obtain ⟨t, _, rfl⟩ := List.mem_map.mp hd
    exact fun z => by cases z
theorem one_flat (o : One) : flatD o.d = true := by cases o <;> rfl
def sp_l_worths_for : DSp := fun ds G Q _ => ∃ (l : Ln) (ns : List Str), ds = [l.d, strsL ns] ∧ l.hasOnes = true ∧ Q (l.mend ns).d G
theorem len_l_worths_for : LenS sp_l_worths_for 2 := by rintro ds G Q xq ⟨s, x, rfl, _⟩; rfl
theorem ones_mend {ns : List Str} {G : Sto} {K : D → Sto → Prop} (o : One) (k : K (o.mend ns).d G) :
    [o.d, D.int 7].length ≤ sizeLine ∧ flatD o.d = true ∧ (ns.map D.str).all flatD = true ∧ ∃ d, atI [o.d, D.int 7] (if memF o.d (ns.map D.str) = true then 1 else 0) = some d ∧ K d G := by
  refine ⟨sz3 2, one_flat o, strs_flat ns, ?_⟩
  rw [memF_one]
  cases o with
  | nm x =>
    by_cases h : x ∈ ns
    · simp only [decide_eq_true h]
      rw [show One.mend ns (.nm x) = .wo 7 from if_pos h] at k
      exact ⟨_, rfl, k⟩
    · simp only [decide_eq_false h]
      rw [show One.mend ns (.nm x) = .nm x from if_neg h] at k
      exact ⟨_, rfl, k⟩
  | wo n => exact ⟨_, rfl, k⟩
theorem body_l_worths_for : Bod [] [] l_worths_forC 6 sp_l_worths_for := by
  rintro ds G Q xq ⟨l, ns, rfl, hl, q⟩
  have fin : ∀ (os : List One) {g : DG} {te : DE} {ρ0 : Ev} {K : List D → Sto → Prop} {items0 : List D}, os.length ≤ 2 → items0 = os.map One.d → K (os.map fun o => (o.mend ns).d) G → (∀ (i : Nat) (x : One), os[i]? = some x → ∀ K : D → Sto → Prop, K (x.mend ns).d G → g x.d ρ0 G (fun ρ1 G1 => te ρ1 G1 K (fun _ _ => False)) (fun _ _ _ => False)) → lcS g dYes te ρ0 (fun _ => True) K items0 [] G := by
    intro os g te ρ0 K items0 h2 he q st
    exact lc_mapA One.d (fun o => (o.mend ns).d) he (Nat.lt_of_le_of_lt h2 (by decide)) trivial st q
  cases l with
  | row r =>
    cases r with
    | set x e a b =>
      refine ⟨[(.inr "set", _), (.inr "copy", _), (.inr "tell", _), (.inr "if", _)], rfl, by simp, rfl, _, rfl, _, _, rfl, rfl, _, rfl, ?_⟩
      show lcS _ _ _ _ _ _ _ _ _
      refine fin [a, b] (by simp) rfl ?_ fun i o ho K k => by cases o <;> exact ones_mend _ k
      exact ⟨sz3 5, sz3 5, q⟩
    | copy x a =>
      refine ⟨[(.inr "set", _), (.inr "copy", _), (.inr "tell", _), (.inr "if", _)], rfl, by simp, rfl, _, rfl, _, _, rfl, rfl, _, rfl, ?_⟩
      show lcS _ _ _ _ _ _ _ _ _
      refine fin [a] (by simp) rfl ?_ fun i o ho K k => by cases o <;> exact ones_mend _ k
      exact ⟨sz3 3, sz3 3, q⟩
    | tell a =>
      refine ⟨[(.inr "set", _), (.inr "copy", _), (.inr "tell", _), (.inr "if", _)], rfl, by simp, rfl, _, rfl, _, _, rfl, rfl, _, rfl, ?_⟩
      show lcS _ _ _ _ _ _ _ _ _
      refine fin [a] (by simp) rfl ?_ fun i o ho K k => by cases o <;> exact ones_mend _ k
      exact ⟨sz3 2, sz3 2, q⟩
  | ex e =>
    cases e with
    | fin => cases hl
    | go b => cases hl
    | iff a b c =>
      refine ⟨[(.inr "set", _), (.inr "copy", _), (.inr "tell", _), (.inr "if", _)], rfl, by simp, rfl, _, rfl, _, _, rfl, rfl, _, rfl, ?_⟩
      show lcS _ _ _ _ _ _ _ _ _
      refine fin [a] (by simp) rfl ?_ fun i o ho K k => by cases o <;> exact ones_mend _ k
      exact ⟨sz3 2, sz3 4, q⟩
end DL

namespace DL
open PySem PySem.Spec PyProof.Rows L2
/-! programs mended: no name may be unset -/
def mendBlok (bl : Blok) (r : Nat) (ns : List Str) : Blok := if r < bl.1.length then (bl.1.modify r (Row.mend ns), bl.2) else (bl.1, bl.2.mend ns)
def mendAt (p : Prog) (b r : Nat) (ns : List Str) : Prog := ⟨p.params, p.blocks.modify b fun bl => mendBlok bl r ns⟩
inductive Mended (p : Prog) : Prog → Prop
  | refl : Mended p p
  | step {q : Prog} (b r : Nat) (ns : List Str) : Mended p q → Mended p (mendAt q b r ns)
theorem modify_eq {α : Type} {l : List α} {i : Nat} {x : α} (f : α → α) (h : l[i]? = some x) : l.modify i f = l.take i ++ f x :: l.drop (i + 1) := by
  have hi := (List.getElem?_eq_some_iff.mp h).1
  have hx := (List.getElem?_eq_some_iff.mp h).2
  rw [List.modify_eq_take_cons_drop hi, hx]
theorem one_mend_names (ns : List Str) (o : One) : (o.mend ns).names = o.names.filter fun x => !decide (x ∈ ns) := by
  cases o with
  | nm x =>
    by_cases h : x ∈ ns
    · rw [show One.mend ns (.nm x) = .wo 7 from if_pos h]
      simp [One.names, h]
    · rw [show One.mend ns (.nm x) = .nm x from if_neg h]
      simp [One.names, h]
  | wo n => rfl
theorem ones_mend_names (ns : List Str) : ∀ os : List One, onesN (os.map (One.mend ns)) = (onesN os).filter fun x => !decide (x ∈ ns)
  | [] => rfl
  | o :: os => by
    have ih := ones_mend_names ns os
    unfold onesN at ih ⊢
    rw [List.map_cons, List.flatMap_cons, List.flatMap_cons, List.filter_append, ih, one_mend_names]
theorem row_mend_reads (ns : List Str) (r : Row) : (r.mend ns).reads = r.reads.filter fun x => !decide (x ∈ ns) := by
  cases r with
  | set x d a b => exact ones_mend_names ns [a, b]
  | copy x a => exact ones_mend_names ns [a]
  | tell a => exact ones_mend_names ns [a]
theorem row_mend_sets (ns : List Str) (r : Row) : (r.mend ns).sets = r.sets := by cases r <;> rfl
theorem exit_mend_reads (ns : List Str) (e : Exit) : (e.mend ns).reads = e.reads.filter fun x => !decide (x ∈ ns) := by
  cases e with
  | iff a b c => exact ones_mend_names ns [a]
  | _ => rfl
theorem exit_mend_led (ns : List Str) (e : Exit) : (e.mend ns).led = e.led := by cases e <;> rfl
theorem mendBlok_len (bl : Blok) (r : Nat) (ns : List Str) : (mendBlok bl r ns).1.length = bl.1.length := by
  unfold mendBlok
  split
  · simp
  · rfl
theorem mendBlok_led (bl : Blok) (r : Nat) (ns : List Str) : (mendBlok bl r ns).2.led = bl.2.led := by
  unfold mendBlok
  split
  · rfl
  · exact exit_mend_led ns bl.2
theorem mem_modify {α : Type} {l : List α} {i : Nat} {f : α → α} {y : α} (h : y ∈ l.modify i f) : y ∈ l ∨ ∃ x ∈ l, y = f x := by
  obtain ⟨j, hj⟩ := List.getElem?_of_mem h
  rw [List.getElem?_modify] at hj
  cases e : l[j]? with
  | none => rw [e] at hj; cases hj
  | some x =>
    rw [e] at hj
    have hx := List.mem_of_getElem? e
    have hj : (if i = j then f x else x) = y := Option.some.inj hj
    by_cases hij : i = j
    · rw [if_pos hij] at hj
      exact .inr ⟨x, hx, hj.symm⟩
    · rw [if_neg hij] at hj
      exact .inl (hj ▸ hx)
theorem mendBlok_names {bl : Blok} {r : Nat} {ns : List Str} {z : Str} (h : z ∈ blokN (mendBlok bl r ns)) : z ∈ blokN bl := by
  unfold mendBlok at h
  unfold blokN at h ⊢
  split at h
  · rcases List.mem_append.mp h with h | h
    · obtain ⟨r', hr', hz⟩ := mem_flat.mp h
      refine List.mem_append.mpr (.inl ?_)
      rcases mem_modify hr' with hr' | ⟨r0, hr0, rfl⟩
      · exact mem_flat.mpr ⟨r', hr', hz⟩
      · refine mem_flat.mpr ⟨r0, hr0, ?_⟩
        unfold rowN at hz ⊢
        rw [row_mend_sets, row_mend_reads] at hz
        rcases List.mem_append.mp hz with hz | hz
        · exact List.mem_append.mpr (.inl hz)
        · exact List.mem_append.mpr (.inr (List.mem_filter.mp hz).1)
    · exact List.mem_append.mpr (.inr h)
  · rcases List.mem_append.mp h with h | h
    · exact List.mem_append.mpr (.inl h)
    · rw [exit_mend_reads] at h
      exact List.mem_append.mpr (.inr (List.mem_filter.mp h).1)
theorem mendAt_names {p : Prog} {b r : Nat} {ns : List Str} {z : Str} (h : z ∈ (mendAt p b r ns).names) : z ∈ p.names := by
  unfold Prog.names mendAt at h
  unfold Prog.names
  rcases List.mem_append.mp h with h | h
  · exact List.mem_append.mpr (.inl h)
  · obtain ⟨bl, hbl, hz⟩ := mem_flat.mp h
    refine List.mem_append.mpr (.inr ?_)
    rcases mem_modify hbl with hbl | ⟨b0, hb0, rfl⟩
    · exact mem_flat.mpr ⟨bl, hbl, hz⟩
    · exact mem_flat.mpr ⟨b0, hb0, mendBlok_names hz⟩
theorem srt_sub {l m : List Str} (h : ∀ z ∈ l, z ∈ m) : (srtO ltS l).length ≤ (srtO ltS m).length :=
  (srtO_nodup linS).length_le_of_subset fun z hz => (mem_srtO linS).mpr (h z ((mem_srtO linS).mp hz))
theorem Prog.Few.mend {p : Prog} (h : p.Few) (b r : Nat) (ns : List Str) : (mendAt p b r ns).Few where
  pl := h.pl
  bl := by
    show (p.blocks.modify b _).length ≤ 10
    rw [List.length_modify]
    exact h.bl
  rl := fun bl hbl => by
    rcases mem_modify hbl with hbl | ⟨b0, hb0, rfl⟩
    · exact h.rl bl hbl
    · rw [mendBlok_len]
      exact h.rl b0 hb0
  nl := Nat.lt_of_le_of_lt (srt_sub fun z hz => mendAt_names hz) h.nl
theorem Prog.Led.mend {p : Prog} (h : p.Led) (b r : Nat) (ns : List Str) : (mendAt p b r ns).Led where
  ne := by
    show 1 ≤ (p.blocks.modify b _).length
    rw [List.length_modify]
    exact h.ne
  led := fun bl hbl k hk => by
    show k < (p.blocks.modify b _).length
    rw [List.length_modify]
    rcases mem_modify hbl with hbl | ⟨b0, hb0, rfl⟩
    · exact h.led bl hbl k hk
    · rw [mendBlok_led] at hk
      exact h.led b0 hb0 k hk
/-! how many names are read -/
def blokR (bl : Blok) : Nat := ((bl.1.map fun r => r.reads.length).sum) + bl.2.reads.length
def Prog.cnt (p : Prog) : Nat := (p.blocks.map blokR).sum
theorem sum_modify {α : Type} {f : α → Nat} {g : α → α} {l : List α} {i : Nat} {x : α} (h : l[i]? = some x) (hl : f (g x) < f x) : ((l.modify i g).map f).sum < (l.map f).sum := by
  have hi := (List.getElem?_eq_some_iff.mp h).1
  have e : l = l.take i ++ x :: l.drop (i + 1) := by
    conv => lhs; rw [← List.take_append_drop i l, List.drop_eq_getElem_cons hi, (List.getElem?_eq_some_iff.mp h).2]
  rw [modify_eq g h]
  conv => rhs; rw [e]
  simp only [List.map_append, List.sum_append, List.map_cons, List.sum_cons]
  omega
theorem filt_less {xs ns : List Str} {x : Str} (h : x ∈ xs) (hn : x ∈ ns) : (xs.filter fun x => !decide (x ∈ ns)).length < xs.length := by
  induction xs with
  | nil => cases h
  | cons a xs ih =>
    have hle := List.length_filter_le (fun x => !decide (x ∈ ns)) xs
    by_cases ha : a ∈ ns
    · rw [List.filter_cons_of_neg (by simpa using ha)]
      exact Nat.lt_succ_of_le hle
    · rw [List.filter_cons_of_pos (by simpa using ha)]
      rcases List.mem_cons.mp h with h | h
      · exact absurd (h ▸ hn) ha
      · exact Nat.succ_lt_succ (ih h)
def Ln.at (bl : Blok) (r : Nat) : Option Ln := (linesOf bl)[r]?
theorem line_row {bl : Blok} {r : Nat} {l : Ln} (h : (linesOf bl)[r]? = some l) (hr : r < bl.1.length) : ∃ row, bl.1[r]? = some row ∧ l = .row row := by
  unfold linesOf at h
  rw [List.getElem?_append_left (by simpa using hr), List.getElem?_map] at h
  cases e : bl.1[r]? with
  | none => rw [e] at h; cases h
  | some row => rw [e] at h; exact ⟨row, rfl, (Option.some.inj h).symm⟩
theorem line_ex {bl : Blok} {r : Nat} {l : Ln} (h : (linesOf bl)[r]? = some l) (hr : ¬ r < bl.1.length) : l = .ex bl.2 := by
  have hl := (List.getElem?_eq_some_iff.mp h).1
  rw [lines_len] at hl
  unfold linesOf at h
  rw [List.getElem?_append_right (by simpa using Nat.le_of_not_lt hr), List.length_map, show r - bl.1.length = 0 by omega] at h
  exact (Option.some.inj h).symm
theorem mendBlok_less {bl : Blok} {r : Nat} {ns : List Str} {l : Ln} {x : Str} (h : (linesOf bl)[r]? = some l) (hx : x ∈ l.reads) (hn : x ∈ ns) : blokR (mendBlok bl r ns) < blokR bl := by
  unfold mendBlok
  split
  · rename_i hr
    obtain ⟨row, h1, rfl⟩ := line_row h hr
    unfold blokR
    have := sum_modify (f := fun r : Row => r.reads.length) (g := Row.mend ns) h1 (by
      show (row.mend ns).reads.length < row.reads.length
      rw [row_mend_reads]
      exact filt_less hx hn)
    simp only
    omega
  · rename_i hr
    have e := line_ex h hr
    subst e
    unfold blokR
    simp only
    rw [exit_mend_reads]
    have := filt_less (xs := bl.2.reads) hx hn
    omega
theorem cnt_mend {p : Prog} {b r : Nat} {ns : List Str} {bl : Blok} {l : Ln} {x : Str} (hb : p.blocks[b]? = some bl) (h : (linesOf bl)[r]? = some l) (hx : x ∈ l.reads) (hn : x ∈ ns) : (mendAt p b r ns).cnt < p.cnt :=
  sum_modify (f := blokR) (g := fun bl => mendBlok bl r ns) hb (mendBlok_less h hx hn)
def namesAt (p : Prog) (bl : Blok) (b r : Nat) : List Str := ((srtO ltS p.names).filter fun x => decide (b ∈ unsetB p x)).filter fun x => !((bl.1.take r).any fun l => setsB (.row l) x)
theorem mem_namesAt {p : Prog} {bl : Blok} {b r : Nat} {l : Ln} {x : Str} (hb : p.blocks[b]? = some bl) (h : (linesOf bl)[r]? = some l) (hx : x ∈ l.reads) (hh : hitB p bl b r x = true) : x ∈ namesAt p bl b r := by
  unfold hitB at hh
  rw [Bool.and_eq_true] at hh
  unfold namesAt
  rw [List.mem_filter, List.mem_filter]
  refine ⟨⟨(mem_srtO linS).mpr (reads_names hb h hx), hh.1⟩, ?_⟩
  have h2 := hh.2
  unfold noneAhead at h2
  have hl := (List.getElem?_eq_some_iff.mp h).1
  rw [lines_len] at hl
  unfold linesOf at h2
  rw [List.take_append_of_le_length (by rw [List.length_map]; omega), ← List.map_take, List.any_map] at h2
  exact h2
def sp_l_mended : DSp := fun ds G Q _ => ∃ p : Prog, ds = [p.d] ∧ p.Led ∧ p.Few ∧ ∀ p', Mended p p' → p'.Led → p'.Few → UnsetIs p' none → Q p'.d G
theorem len_l_mended : LenS sp_l_mended 1 := by rintro ds G Q xq ⟨s, rfl, _⟩; rfl
theorem mendAt_d {p : Prog} {b r : Nat} {ns : List Str} {bl : Blok} (hb : p.blocks[b]? = some bl) : (mendAt p b r ns).d = .tup [strsD p.params, .tup ((p.blocks.map blokD).take b ++ [blokD (mendBlok bl r ns)] ++ (p.blocks.map blokD).drop (b + 1))] := by
  unfold mendAt Prog.d
  simp only
  rw [modify_eq _ hb]
  simp [List.map_take, List.map_drop]
set_option maxHeartbeats 0 in
theorem body_l_mended : BodW [sp_l_unset, sp_l_worths_for, sp_l_sets, sp_l_all_names, sp_l_unset_blocks] [] l_mendedC 9 sp_l_mended := by
  rintro ds G Q xq ⟨p, rfl, hL, hF, q⟩
  refine ⟨p, rfl, hL, hF, fun o ho => ?_⟩
  show sWhile _ _ _ _ _
  refine while_op (W := fun m ρ G1 => G1 = G ∧ ∃ p1 o, Mended p p1 ∧ p1.Led ∧ p1.Few ∧ UnsetIs p1 o ∧ m = p1.cnt ∧ ∃ x2 x3 x4 x5 x6 x7 x8, ρ = [some p1.d, some (placeD o), x2, x3, x4, x5, x6, x7, x8]) (m0 := p.cnt) ?_ ?_
  · exact ⟨rfl, p, o, .refl, hL, hF, ho, rfl, _, _, _, _, _, _, _, rfl⟩
  clear hL hF ho
  rintro m ρ G1 E ⟨rfl, p1, o, hM, hL, hF, ho, rfl, x2, x3, x4, x5, x6, x7, x8, rfl⟩ eN eC eR eB eX
  rcases ho with ⟨rfl, ho⟩ | ⟨b, r, rfl, ⟨bl, l, x, hb, hl, hx, hh⟩, ho⟩
  · exact .of (q p1 hM hL hF (.inl ⟨rfl, ho⟩))
  have hat : atI (p1.blocks.map blokD) (b : Int) = some (blokD bl) := atI_nat (by rw [List.getElem?_map, hb]; rfl)
  have hblm := List.mem_of_getElem? hb
  have hbl10 := hF.bl
  have hrl := hF.rl bl hblm
  have hbi := (List.getElem?_eq_some_iff.mp hb).1
  have hli := (List.getElem?_eq_some_iff.mp hl).1
  rw [lines_len] at hli
  have hin := mem_namesAt hb hl hx hh
  have hcnt := cnt_mend hb hl hx hin
  refine ⟨rfl, _, rfl, _, hat, rfl, ?_⟩
  refine ⟨p1, rfl, hF, ?_⟩
  show lcS _ _ _ _ _ _ _ _ _
  have hnl : (srtO ltS p1.names).length < 64 := hF.nl
  refine lc_filtA D.str (fun x => decide (b ∈ unsetB p1 x)) D.str rfl (Nat.lt_of_lt_of_le hnl (by decide)) trivial (fun i y hy K N n1 n2 => ?_) ?_
  · refine ⟨p1, y, rfl, hL, hF, rfl, nats_flat _, ?_⟩
    show if memF (natD b) ((unsetB p1 y).map natD) = true then _ else _
    rw [memF_nat]
    cases e : decide (b ∈ unsetB p1 y) with
    | true => exact n1 e
    | false => exact n2 e
  show lcS _ _ _ _ _ _ _ _ _
  refine lc_filtA D.str (fun x => !((bl.1.take r).any fun l => setsB (.row l) x)) D.str rfl (Nat.lt_of_le_of_lt (List.length_filter_le _ _) (Nat.lt_of_lt_of_le hnl (by decide))) trivial (fun i y hy K N n1 n2 => ?_) ?_
  · show lcS _ _ _ _ _ _ _ _ _
    refine lc_filtA Row.d (fun l => setsB (.row l) y) Row.d (xs := bl.1.take r) (by rw [cut_hi _ (by rw [List.length_map]; omega), List.map_take]) (by rw [List.length_take]; exact Nat.lt_of_le_of_lt (show _ ≤ 11 by omega) (by decide)) trivial (fun i l' hl' K N n1 n2 => ?_) ?_
    · refine ⟨.row l', y, rfl, ?_⟩
      cases e : setsB (.row l') y with
      | true => exact n1 e
      | false => exact n2 e
    refine ⟨sz3 0, ?_⟩
    show if (List.isEmpty (((bl.1.take r).filter fun l => setsB (.row l) y).map Row.d)) = true then _ else _
    rw [filt_empty]
    cases e : !((bl.1.take r).any fun l => setsB (.row l) y) with
    | true => exact n1 e
    | false => exact n2 e
  have tail : ∀ {ρ' : Ev} {v5 v6 : D} {x2' x7' x8' : Option D}, .tup [v5, v6] = blokD (mendBlok bl r (namesAt p1 bl b r)) → ρ' = [some p1.d, some (placeD (some (b, r))), x2', some (natD b), some (natD r), some v5, some v6, x7', x8'] → denB [sp_l_unset, sp_l_worths_for, sp_l_sets, sp_l_all_names, sp_l_unset_blocks] [] (CB.cons (CS.asg (CG.name 0) (CE.tup (CA.cons ((CE.var 0).ix (CE.int 0)) (CA.cons (((((CE.var 0).ix (CE.int 1)).slv CO.no (CO.part (CE.var 3))).addv (CE.tup (CA.cons (CE.tup (CA.cons (CE.var 5) (CA.cons (CE.var 6) CA.nil))) CA.nil))).addv (((CE.var 0).ix (CE.int 1)).slv (CO.part ((CE.var 3).addv (CE.int 1))) CO.no)) CA.nil)))) (CB.cons (CS.asg (CG.name 1) (CE.fn 0 (CA.cons (CE.var 0) CA.nil))) CB.nil)) E ρ' G1 := by
    rintro ρ' v5 v6 x2' x7' x8' hv rfl
    have fin2 := mendAt_d (r := r) (ns := namesAt p1 bl b r) hb
    rw [← hv] at fin2
    refine ⟨_, rfl, _, rfl, sz3 2, sz3 1, ?_⟩
    have c1 : cutD (p1.blocks.map blokD) none (some (b : Int)) = (p1.blocks.map blokD).take b := cut_hi _ (by rw [List.length_map]; omega)
    have c2 : cutD (p1.blocks.map blokD) (some ((b : Int) + 1)) none = (p1.blocks.map blokD).drop (b + 1) := cut_lo (j := b + 1) _ (by rw [List.length_map]; omega)
    refine ⟨?_, _, rfl, ?_, ?_⟩
    · rw [c1]; simp; exact sz320 (by omega)
    · show (cutD (p1.blocks.map blokD) none (some (b : Int)) ++ [D.tup [v5, v6]]).length + (cutD (p1.blocks.map blokD) (some ((b : Int) + 1)) none).length ≤ _
      rw [c1, c2]; simp; exact sz320 (by omega)
    refine ⟨sz3 2, ?_⟩
    have hd : D.tup [strsD p1.params, .tup (cutD (p1.blocks.map blokD) none (some (b : Int)) ++ [D.tup [v5, v6]] ++ cutD (p1.blocks.map blokD) (some ((b : Int) + 1)) none)] = (mendAt p1 b r (namesAt p1 bl b r)).d := by rw [c1, c2, fin2]
    refine ⟨_, congrArg (fun z => [z]) hd, hL.mend .., hF.mend .., fun o ho => ?_⟩
    exact eN _ _ _ _ hcnt .refl ⟨rfl, mendAt p1 b r (namesAt p1 bl b r), o, .step b r _ hM, hL.mend .., hF.mend .., ho, rfl, _, _, _, _, _, _, _, congrArg (fun z => [some z, some (placeD o), x2', some (natD b), some (natD r), some v5, some v6, x7', x8']) hd⟩
  by_cases hr : r < bl.1.length
  · refine iteY (decide_eq_true (by show (r : Int) < ((bl.1.map Row.d).length : Nat); rw [List.length_map]; omega)) ?_
    obtain ⟨row, hrow, rfl⟩ := line_row hl hr
    have hatr : atI (bl.1.map Row.d) (r : Int) = some row.d := atI_nat (by rw [List.getElem?_map, hrow]; rfl)
    have c1 : cutD (bl.1.map Row.d) none (some (r : Int)) = (bl.1.map Row.d).take r := cut_hi _ (by rw [List.length_map]; omega)
    have c2 : cutD (bl.1.map Row.d) (some ((r : Int) + 1)) none = (bl.1.map Row.d).drop (r + 1) := cut_lo (j := r + 1) _ (by rw [List.length_map]; omega)
    refine ⟨_, hatr, .row row, namesAt p1 bl b r, rfl, rfl, sz3 1, ?_, ?_, ?_⟩
    · rw [c1]; simp; exact sz320 (by omega)
    · show (cutD (bl.1.map Row.d) none (some (r : Int)) ++ [(row.mend (namesAt p1 bl b r)).d]).length + (cutD (bl.1.map Row.d) (some ((r : Int) + 1)) none).length ≤ _
      rw [c1, c2]; simp; exact sz320 (by omega)
    refine tail (v5 := .tup (cutD (bl.1.map Row.d) none (some (r : Int)) ++ [(row.mend (namesAt p1 bl b r)).d] ++ cutD (bl.1.map Row.d) (some ((r : Int) + 1)) none)) (v6 := bl.2.d) ?_ rfl
    unfold mendBlok blokD
    rw [if_pos hr, c1, c2]
    simp only
    rw [modify_eq _ hrow]
    simp [List.map_take, List.map_drop]
  · refine iteN (decide_eq_false (by show ¬ (r : Int) < ((bl.1.map Row.d).length : Nat); rw [List.length_map]; omega)) ?_
    have he := line_ex hl hr
    subst he
    cases ee : bl.2 with
    | fin => rw [show (Ln.ex bl.2).reads = bl.2.reads from rfl, ee] at hx; cases hx
    | go k => rw [show (Ln.ex bl.2).reads = bl.2.reads from rfl, ee] at hx; cases hx
    | iff a c d =>
      refine ⟨.ex (.iff a c d), namesAt p1 bl b r, rfl, rfl, ?_⟩
      refine tail ?_ rfl
      unfold mendBlok
      rw [if_neg hr, ee]
      rfl
end DL

namespace DL
open PySem PySem.Spec PyProof.Rows L2
/-! programs drawn -/
def Letter (c : Nat) : Prop := 97 ≤ c ∧ c ≤ 122
def NmOk (t : Str) : Prop := 1 ≤ t.length ∧ t.length ≤ 8 ∧ ∀ c ∈ t.cps.toList, Letter c
instance (c : Nat) : Decidable (Letter c) := inferInstanceAs (Decidable (_ ∧ _))
instance (t : Str) : Decidable (NmOk t) := inferInstanceAs (Decidable (_ ∧ _ ∧ _))
def abc : Str := "abcdefghijklmnopqrstuvwxyz"
theorem abc_cps : abc.cps.toList = (List.range 26).map (97 + ·) := by decide +kernel
theorem joinL_ones : ∀ cs : List Nat, TL.joinL [] (cs.map fun c => [c]) = cs
  | [] => rfl
  | [c] => rfl
  | c :: d :: cs => by
    have ih := joinL_ones (d :: cs)
    rw [List.map_cons, List.map_cons]
    rw [List.map_cons] at ih
    unfold TL.joinL
    rw [ih]
    rfl
theorem join_ones (cs : List Nat) : Txt.join ("" : Str) (cs.map fun c => (⟨#[c]⟩ : Str)) = SX.S cs := by
  have h := SX.join_S [] (cs.map fun c => [c])
  rw [joinL_ones, List.map_map] at h
  exact h
def sp_l_deeds : DSp := fun ds G Q _ => ds = [] ∧ Q (strsL ["add", "less", "times", "both", "odd", "same", "under"]) G
theorem len_l_deeds : LenS sp_l_deeds 0 := by rintro ds G Q xq ⟨rfl, _⟩; rfl
theorem body_l_deeds : Bod [] [] l_deedsC 0 sp_l_deeds := by
  rintro ds G Q xq ⟨rfl, q⟩
  exact ⟨sz3 7, q⟩
/-- with a pen that has room for c draws -/
def spN (c : Nat) (A : List D → Prop) (R : List D → D → Prop) : DSp := fun ds G Q _ => ∃ (p : Addr) (s : Pn) (G0 : Sto) (es : List D), ds = .ref p :: es ∧ G = put G0 p s.c ∧ A es ∧ s.at_ + c < 2 ^ 62 ∧ ∀ (d : D) (s' : Pn), R es d → s'.at_ ≤ s.at_ + c → Q d (put G0 p s'.c)
def sp_l_name : DSp := spN 12 (fun es => es = []) fun _ d => ∃ t, NmOk t ∧ d = .str t
theorem len_l_name : LenS sp_l_name 1 := by rintro ds G Q xq ⟨p, s, G0, es, rfl, _, rfl, _⟩; rfl
theorem body_l_name : Bod [spDrawB] [] l_nameC 4 sp_l_name := by
  rintro ds G Q xq ⟨p, s, G0, es, rfl, rfl, rfl, hs, q⟩
  refine ⟨p, s, 6, G0, rfl, rfl, by decide, by decide, by omega, fun k s1 _ h1 => ?_⟩
  refine ite2 (fun h => ?_) (fun h => ?_)
  · refine ⟨sz3 9, p, s1, 9, G0, rfl, rfl, by decide, by decide, by omega, fun k s2 hk h2 => ?_⟩
    have hk : k < 9 := by omega
    match k, hk with
    | 0, _ | 1, _ | 2, _ | 3, _ | 4, _ | 5, _ | 6, _ | 7, _ | 8, _ => exact ⟨_, rfl, q _ s2 ⟨_, by decide +kernel, rfl⟩ (by omega)⟩
  · refine ⟨p, s1, 8, G0, rfl, rfl, by decide, by decide, by omega, fun a s2 ha h2 => ⟨sz3 5, ?_⟩⟩
    refine ⟨p, s2, 5, G0, rfl, rfl, by decide, by decide, by omega, fun k s3 hk h3 => ?_⟩
    have ⟨n, hn, hn1, hn8⟩ : ∃ n : Nat, atI [D.int 1, .int 1, .int 2, .int 8, .int (1 + (a : Int))] (k : Int) = some (.int n) ∧ 1 ≤ n ∧ n ≤ 8 := by
      have hk : k < 5 := by omega
      match k, hk with
      | 0, _ => exact ⟨1, rfl, by decide, by decide⟩
      | 1, _ => exact ⟨1, rfl, by decide, by decide⟩
      | 2, _ => exact ⟨2, rfl, by decide, by decide⟩
      | 3, _ => exact ⟨8, rfl, by decide, by decide⟩
      | 4, _ => exact ⟨1 + a, by rw [Int.natCast_add]; rfl, by omega, by omega⟩
    refine ⟨_, hn, rfl, by omega, by omega, ?_⟩
    show lcS _ _ _ _ _ _ _ _ _
    refine lc_ix (I := fun k acc G1 => ∃ (cs : List Nat) (s' : Pn), acc = (cs.map fun c => (⟨#[c]⟩ : Str)).map D.str ∧ cs.length = k ∧ (∀ c ∈ cs, Letter c) ∧ s'.at_ ≤ s3.at_ + k ∧ G1 = put G0 p s'.c) 0 ⟨[], s3, rfl, rfl, by simp, by omega, rfl⟩ ?_ ?_
    · rintro i x hx acc G1 N ⟨cs, s4, rfl, hl, hc, h4, rfl⟩ hN
      have hi := (List.getElem?_eq_some_iff.mp hx).1
      rw [rangeD_len] at hi
      rw [Nat.zero_add] at hN hl h4
      refine ⟨trivial, p, s4, 26, G0, rfl, rfl, by decide, by decide, by omega, fun c s5 hc5 h5 => ?_⟩
      refine ⟨97 + c, sz3 26, ?_, by simp only [List.length_map]; exact Nat.lt_of_le_of_lt (show _ ≤ 8 by omega) (by decide), hN _ _ ⟨cs ++ [97 + c], s5, ?_, ?_, ?_, ?_, rfl⟩⟩
      · exact atI_nat (by
          show abc.cps.toList[c]? = _
          rw [abc_cps, List.getElem?_map, List.getElem?_range (by omega)]
          rfl)
      · simp
      · simp [hl]
      · intro y hy
        rcases List.mem_append.mp hy with hy | hy
        · exact hc y hy
        · rw [List.mem_singleton] at hy
          subst hy
          unfold Letter
          omega
      · omega
    · rintro acc G1 ⟨cs, s4, rfl, hl, hc, h4, rfl⟩
      rw [rangeD_len, Nat.zero_add] at hl h4
      have hln : cs.length = n := by omega
      refine ⟨trivial, _, rfl, ?_, ?_⟩
      · rw [List.map_map]
        have : (cs.map ((fun x => x.length) ∘ fun c => (⟨#[c]⟩ : Str))).sum = cs.length := by
          clear hl hc h4 hln
          induction cs with
          | nil => rfl
          | cons c cs ih => rw [List.map_cons, List.sum_cons, ih, List.length_cons]; show 1 + _ = _; omega
        rw [this, List.length_map]
        show cs.length + cs.length * 0 ≤ 16777216
        omega
      · refine q _ s4 ⟨_, ?_, rfl⟩ (by omega)
        have e := join_ones cs
        show NmOk (Txt.join (Str.ofString "") (cs.map fun c => (⟨#[c]⟩ : Str)))
        rw [e]
        refine ⟨?_, ?_, ?_⟩
        · rw [SX.S_len]; omega
        · rw [SX.S_len]; omega
        · exact hc
theorem put_comm {G : Sto} {a b : Addr} {x y : Cl} (h : a ≠ b) : put (put G a x) b y = put (put G b y) a x := by
  funext c
  unfold put
  by_cases h1 : c = b
  · subst h1
    rw [if_pos rfl, if_neg (Ne.symm h), if_pos rfl]
  · by_cases h2 : c = a
    · subst h2
      rw [if_neg h1, if_pos rfl, if_pos rfl]
    · rw [if_neg h1, if_neg h2, if_neg h2, if_neg h1]
theorem cutS_hi (t : Str) {j : Nat} (h : j ≤ t.length) : (cutS t none (some (j : Int))).cps.toList = t.cps.toList.take j := by
  unfold cutS
  have h0 : HT.sIx t.length 0 none = 0 := rfl
  have h1 : HT.sIx t.length t.length (some (j : Int)) = j := by
    unfold HT.sIx
    simp
    rw [if_neg (by omega)]
    omega
  rw [h0, h1]
  simp
theorem Str.len_tl (t : Str) : t.length = t.cps.toList.length := by unfold Str.length; simp
theorem NmOk.cut {t : Str} (h : NmOk t) {c : Nat} (hc : Letter c) : NmOk (cutS t none (some ((t.length : Int) - 1)) ++ ⟨#[c]⟩) := by
  have e : (t.length : Int) - 1 = ((t.length - 1 : Nat) : Int) := by have := h.1; omega
  rw [e]
  have e2 : (cutS t none (some ((t.length - 1 : Nat) : Int)) ++ (⟨#[c]⟩ : Str)).cps.toList = t.cps.toList.take (t.length - 1) ++ [c] := by
    rw [← cutS_hi t (show t.length - 1 ≤ t.length by omega)]
    exact TL.tl_append _ _
  have hl := Str.len_tl t
  have h1 := h.1
  have h2 := h.2.1
  refine ⟨?_, ?_, fun d hd => ?_⟩
  · rw [Str.len_tl, e2, List.length_append, List.length_singleton]; omega
  · rw [Str.len_tl, e2, List.length_append, List.length_take, List.length_singleton]; omega
  · rw [e2] at hd
    rcases List.mem_append.mp hd with hd | hd
    · exact h.2.2 d (List.mem_of_mem_take hd)
    · rw [List.mem_singleton] at hd
      exact hd ▸ hc
structure NmsOk (n : Nat) (ts : List Str) : Prop where
  len : ts.length ≤ n
  nd : ts.Nodup
  ok : ∀ t ∈ ts, NmOk t
def sp_l_names : DSp := spN 168 (fun es => ∃ n : Nat, es = [.int n] ∧ 1 ≤ n ∧ n ≤ 14) fun _ d => ∃ ts, NmsOk 14 ts ∧ ts ≠ [] ∧ d = strsL ts
theorem len_l_names : LenS sp_l_names 2 := by rintro ds G Q xq ⟨p, s, G0, es, rfl, _, ⟨n, rfl, _⟩, _⟩; rfl
set_option maxHeartbeats 0 in
theorem body_l_names : BodW [sp_l_name] [] l_namesC 6 sp_l_names := by
  rintro ds G Q xq ⟨p, s, G0, es, rfl, rfl, ⟨n, rfl, hn1, hn⟩, hs, q⟩
  refine ⟨sz3 0, fun a fa => ?_⟩
  have hap : a ≠ p := fun z => by
    subst z
    rw [put_same] at fa
    cases fa
  have fa0 : G0 a = none := by rw [put_ne hap] at fa; exact fa
  refine ⟨by omega, by omega, ?_⟩
  show forS _ _ _ _ _ _ _
  refine for_op (I := fun i ρ G1 => ∃ (ts : List Str) (s1 : Pn) (x3 x4 x5 : Option D), ρ = [some (.ref p), some (.int n), some (.ref a), x3, x4, x5] ∧ NmsOk i ts ∧ (0 < i → ts ≠ []) ∧ s1.at_ ≤ s.at_ + 12 * i ∧ G1 = put (put G0 a (.lst (ts.map D.str))) p s1.c) ?_ ?_ ?_
  · exact ⟨[], s, none, none, none, rfl, ⟨by simp, by simp, by simp⟩, by omega, by omega, (put_comm hap).symm⟩
  · rintro i x hx ρ G1 E ⟨ts, s1, x3, x4, x5, rfl, hts, hne, h1, rfl⟩ eN eC eR eB eX
    have hi := (List.getElem?_eq_some_iff.mp hx).1
    rw [rangeD_len] at hi
    have atA : ∀ {u : Cl} {v : Cl}, put (put G0 a u) p v a = some u := fun {u v} => by rw [put_ne hap]; exact put_same
    refine ⟨trivial, p, s1, put G0 a (.lst (ts.map D.str)), [], rfl, rfl, rfl, by omega, ?_⟩
    rintro d s2 ⟨t, ht, rfl⟩ h2
    show forS _ _ _ _ _ _ _
    refine for_op (I := fun j ρ G1 => ∃ (t : Str) (x5 : Option D), NmOk t ∧ ρ = [some (.ref p), some (.int n), some (.ref a), some x, some (.str t), x5] ∧ G1 = put (put G0 a (.lst (ts.map D.str))) p s2.c) ?_ ?_ ?_
    · exact ⟨t, x5, ht, rfl, rfl⟩
    · rintro j y hy ρ G1 E2 ⟨t, x5, ht, rfl, rfl⟩ e2N e2C e2R e2B e2X
      obtain ⟨c, hc, rfl⟩ := get_map hy
      have hcm : c ∈ abc.cps.toList := List.mem_of_getElem? hc
      have hcl : Letter c := by
        rw [abc_cps] at hcm
        obtain ⟨k, hk, rfl⟩ := List.mem_map.mp hcm
        rw [List.mem_range] at hk
        unfold Letter
        omega
      refine ⟨trivial, .inl ⟨_, atA, rfl, strs_flat _, ?_⟩⟩
      have hl8 := ht.2.1
      refine ite2 (fun h => ?_) (fun h => ?_)
      · refine ⟨Nat.le_trans hl8 (by decide), Nat.le_trans hl8 (by decide), ?_, ?_⟩
        · refine Nat.le_trans (m := 20) ?_ (by decide)
          have h1 := (ht.cut hcl).2.1
          have h2 := Str.len_tl (cutS t none (some ((t.length : Int) - 1)) ++ (⟨#[c]⟩ : Str))
          rw [show (cutS t none (some ((t.length : Int) - 1)) ++ (⟨#[c]⟩ : Str)).cps.toList = (cutS t none (some ((t.length : Int) - 1))).cps.toList ++ [c] from TL.tl_append _ _, List.length_append, ← Str.len_tl, List.length_singleton] at h2
          show (cutS t none (some ((t.length : Int) - 1))).length + 1 ≤ 20
          omega
        · exact e2N _ _ _ .refl ⟨_, _, ht.cut hcl, rfl, rfl⟩
      · exact e2N _ _ _ .refl ⟨t, _, ht, rfl, rfl⟩
    · rintro ρ G1 ⟨t, x5, ht, rfl, rfl⟩
      refine ⟨trivial, .inl ⟨_, atA, rfl, strs_flat _, ?_⟩⟩
      have hl14 := hts.len
      refine ite2 (fun h => ?_) (fun h => ?_)
      · have hin : ¬ t ∈ ts := fun z => by
          have h : (!memF (.str t) (ts.map D.str)) = true := h
          rw [memF_str, decide_eq_true z] at h
          cases h
        refine ⟨⟨rfl, _, atA⟩, _, atA, by rw [List.length_map]; exact Nat.lt_of_le_of_lt (show _ ≤ 14 by omega) (by decide), ?_⟩
        refine eN _ _ _ .refl ⟨ts ++ [t], s2, _, _, _, rfl, ⟨by rw [List.length_append, List.length_singleton]; omega, ?_, ?_⟩, fun _ => by simp, by omega, ?_⟩
        · rw [List.nodup_append]
          exact ⟨hts.nd, by simp, fun a ha b hb => by rw [List.mem_singleton] at hb; subst hb; intro e; subst e; exact hin ha⟩
        · intro y hy
          rcases List.mem_append.mp hy with hy | hy
          · exact hts.ok y hy
          · rw [List.mem_singleton] at hy
            exact hy ▸ ht
        · rw [put_comm hap, put_put, ← put_comm hap, List.map_append]
          rfl
      · refine eN _ _ _ .refl ⟨ts, s2, _, _, _, rfl, ⟨by omega, hts.nd, hts.ok⟩, fun _ => ?_, by omega, rfl⟩
        rintro rfl
        exact h rfl
  · rintro ρ G1 ⟨ts, s1, x3, x4, x5, rfl, hts, hne, h1, rfl⟩
    rw [rangeD_len] at hts hne h1
    refine ⟨trivial, a, _, rfl, by rw [put_ne hap]; exact put_same, ?_⟩
    rw [put_comm hap, drop_put (by rw [put_ne hap]; exact fa0)]
    exact .of (q _ s1 ⟨ts, ⟨by have := hts.len; omega, hts.nd, hts.ok⟩, hne (by omega), rfl⟩ (by omega))
end DL

namespace DL
open PySem PySem.Spec PyProof.Rows L2
def deedNames : List Str := ["add", "less", "times", "both", "odd", "same", "under"]
def OneOk (ts : List Str) : One → Prop
  | .nm x => x ∈ ts
  | .wo n => n < 65536
def RowOk (ts : List Str) : Row → Prop
  | .set x e a b => x ∈ ts ∧ e ∈ deedNames ∧ OneOk ts a ∧ OneOk ts b
  | .copy x a => x ∈ ts ∧ OneOk ts a
  | .tell a => OneOk ts a
def ExitOk (n : Nat) (ts : List Str) : Exit → Prop
  | .fin => True
  | .go b => b < n
  | .iff a b c => OneOk ts a ∧ b < n ∧ c < n
def sp_l_one : DSp := spN 4 (fun es => ∃ ts : List Str, es = [strsL ts] ∧ ts.length ≤ 14) fun es d => ∃ ts o, es = [strsL ts] ∧ OneOk ts o ∧ d = o.d
theorem len_l_one : LenS sp_l_one 2 := by rintro ds G Q xq ⟨p, s, G0, es, rfl, _, ⟨n, rfl, _⟩, _⟩; rfl
theorem body_l_one : Bod [spDrawB] [] l_oneC 2 sp_l_one := by
  rintro ds G Q xq ⟨p, s, G0, es, rfl, rfl, ⟨ts, rfl, ht⟩, hs, q⟩
  have wos : ∀ (s1 : Pn), s1.at_ ≤ s.at_ + 1 → denE [spDrawB] [] (.ix (.lstv (.cons (.int 0) (.cons (.int 1) (.cons (.int 65535) (.cons (.fn 0 (.cons (.var 0) (.cons (.int 65536) .nil))) .nil))))) (.fn 0 (.cons (.var 0) (.cons (.int 4) .nil)))) [some (.ref p), some (strsL ts)] (put G0 p s1.c) Q (fun z => xq z) := by
    intro s1 h1
    refine ⟨p, s1, 65536, G0, rfl, rfl, by decide, by decide, by omega, fun a s2 ha h2 => ⟨sz3 4, ?_⟩⟩
    refine ⟨p, s2, 4, G0, rfl, rfl, by decide, by decide, by omega, fun k s3 hk h3 => ?_⟩
    have hk : k < 4 := by omega
    match k, hk with
    | 0, _ => exact ⟨_, rfl, q _ s3 ⟨ts, .wo 0, rfl, (by decide : 0 < 65536), rfl⟩ (by omega)⟩
    | 1, _ => exact ⟨_, rfl, q _ s3 ⟨ts, .wo 1, rfl, (by decide : 1 < 65536), rfl⟩ (by omega)⟩
    | 2, _ => exact ⟨_, rfl, q _ s3 ⟨ts, .wo 65535, rfl, (by decide : 65535 < 65536), rfl⟩ (by omega)⟩
    | 3, _ => exact ⟨_, rfl, q _ s3 ⟨ts, .wo a, rfl, by show a < 65536; omega, rfl⟩ (by omega)⟩
  refine ⟨sz3 0, ?_⟩
  cases ts with
  | nil => exact wos s (by omega)
  | cons t ts =>
    refine ⟨p, s, 4, G0, rfl, rfl, by decide, by decide, by omega, fun k s1 hk h1 => ?_⟩
    refine ite2 (fun h => ?_) (fun h => ?_)
    · exact wos s1 h1
    · have hl : ((t :: ts).map D.str).length = (t :: ts).length := List.length_map ..
      refine ⟨p, s1, _, G0, rfl, rfl, ?_, ?_, by omega, fun k s2 hk h2 => ?_⟩
      · show (1 : Int) ≤ (((t :: ts).map D.str).length : Nat)
        rw [hl, List.length_cons]; omega
      · show ((((t :: ts).map D.str).length : Nat) : Int) < _
        rw [hl]; omega
      · have hk : k < (t :: ts).length := by
          have : (k : Int) < (((t :: ts).map D.str).length : Nat) := hk
          rw [hl] at this
          omega
        exact ⟨_, atI_nat (by rw [List.getElem?_map, List.getElem?_eq_getElem hk]; rfl), q _ s2 ⟨_, .nm _, rfl, List.getElem_mem hk, rfl⟩ (by omega)⟩
/-- a name out of names -/
theorem pick_name {ts : List Str} {p : Addr} {s : Pn} {G0 : Sto} {K : DQ} {xq : XQ} (hne : ts ≠ []) (hl : ts.length ≤ 14) (hs : s.at_ + 1 < 2 ^ 62) (q : ∀ (t : Str) (s' : Pn), t ∈ ts → s'.at_ ≤ s.at_ + 1 → K (.str t) (put G0 p s'.c)) :
    spDrawB [.ref p, .int ((ts.map D.str).length : Nat)] (put G0 p s.c) (fun y G => ixD (strsL ts) y G K) xq := by
  have h0 : 0 < ts.length := List.length_pos_iff.mpr hne
  refine ⟨p, s, _, G0, rfl, rfl, ?_, ?_, by omega, fun k s1 hk h1 => ?_⟩
  · rw [List.length_map]; omega
  · rw [List.length_map]; omega
  · rw [List.length_map] at hk
    have hk : k < ts.length := by omega
    exact ⟨_, atI_nat (by rw [List.getElem?_map, List.getElem?_eq_getElem hk]; rfl), q _ s1 (List.getElem_mem hk) h1⟩
def sp_l_some_row : DSp := spN 12 (fun es => ∃ ts : List Str, es = [strsL ts, strsL ts] ∧ ts ≠ [] ∧ ts.length ≤ 14) fun es d => ∃ ts r, es = [strsL ts, strsL ts] ∧ RowOk ts r ∧ d = r.d
theorem len_l_some_row : LenS sp_l_some_row 3 := by rintro ds G Q xq ⟨p, s, G0, es, rfl, _, ⟨n, rfl, _⟩, _⟩; rfl
theorem strsL_inj {ts us : List Str} (h : strsL ts = strsL us) : ts = us := by
  unfold strsL at h
  injection h with h
  exact List.map_inj_right (fun a b e => by cases e; rfl) |>.mp h
theorem one_of {ts us : List Str} (h : [strsL ts] = [strsL us]) : ts = us := by
  injection h with h _
  exact strsL_inj h
theorem body_l_some_row : Bod [sp_l_one, sp_l_deeds, spDrawB] [] l_some_rowC 5 sp_l_some_row := by
  rintro ds G Q xq ⟨p, s, G0, es, rfl, rfl, ⟨ts, rfl, hne, ht⟩, hs, q⟩
  refine ⟨p, s, 5, G0, rfl, rfl, by decide, by decide, by omega, fun k s1 hk h1 => ?_⟩
  refine pick_name (xq := xq) hne ht (by omega) fun x s2 hx h2 => ?_
  refine ite2 (fun h => ?_) (fun h => ?_)
  · refine ⟨p, s2, G0, [strsL ts], rfl, rfl, ⟨ts, rfl, ht⟩, by omega, ?_⟩
    rintro d s3 ⟨ts', o, e, ho, rfl⟩ h3
    cases one_of e
    exact ⟨sz3 2, q _ s3 ⟨ts, .tell o, rfl, ho, rfl⟩ (by omega)⟩
  refine ite2 (fun h => ?_) (fun h => ?_)
  · refine ⟨p, s2, G0, [strsL ts], rfl, rfl, ⟨ts, rfl, ht⟩, by omega, ?_⟩
    rintro d s3 ⟨ts', o, e, ho, rfl⟩ h3
    cases one_of e
    exact ⟨sz3 3, q _ s3 ⟨ts, .copy x o, rfl, ⟨hx, ho⟩, rfl⟩ (by omega)⟩
  refine ⟨rfl, p, s2, 7, G0, rfl, rfl, by decide, by decide, by omega, fun k s3 hk h3 => ?_⟩
  have hk : k < deedNames.length := by show k < 7; omega
  refine ⟨_, atI_nat (by show (deedNames.map D.str)[k]? = _; rw [List.getElem?_map, List.getElem?_eq_getElem hk]; rfl), ?_⟩
  refine ⟨p, s3, G0, [strsL ts], rfl, rfl, ⟨ts, rfl, ht⟩, by omega, ?_⟩
  rintro d s4 ⟨ts', o, e, ho, rfl⟩ h4
  cases one_of e
  refine ⟨p, s4, G0, [strsL ts], rfl, rfl, ⟨ts, rfl, ht⟩, by omega, ?_⟩
  rintro d s5 ⟨ts', o', e, ho', rfl⟩ h5
  cases one_of e
  exact ⟨sz3 5, q _ s5 ⟨ts, .set x _ o o', rfl, ⟨hx, List.getElem_mem hk, ho, ho'⟩, rfl⟩ (by omega)⟩
def sp_l_exit : DSp := spN 8 (fun es => ∃ (n : Nat) (ts : List Str), es = [.int n, strsL ts] ∧ 1 ≤ n ∧ n ≤ 100 ∧ ts.length ≤ 14) fun es d => ∃ (n : Nat) (ts : List Str) (e : Exit), es = [.int n, strsL ts] ∧ ExitOk n ts e ∧ d = e.d
theorem len_l_exit : LenS sp_l_exit 3 := by rintro ds G Q xq ⟨p, s, G0, es, rfl, _, ⟨n, ts, rfl, _⟩, _⟩; rfl
theorem body_l_exit : Bod [spDrawB, sp_l_one] [] l_exitC 4 sp_l_exit := by
  rintro ds G Q xq ⟨p, s, G0, es, rfl, rfl, ⟨n, ts, rfl, hn, hn2, ht⟩, hs, q⟩
  refine ⟨p, s, 5, G0, rfl, rfl, by decide, by decide, by omega, fun k s1 hk h1 => ?_⟩
  refine ite2 (fun h => ?_) (fun h => ?_)
  · exact ⟨sz3 1, q _ s1 ⟨n, ts, .fin, rfl, trivial, rfl⟩ (by omega)⟩
  refine ite2 (fun h => ?_) (fun h => ?_)
  · refine ⟨p, s1, n, G0, rfl, rfl, by omega, by omega, by omega, fun b s2 hb h2 => ?_⟩
    exact ⟨sz3 2, q _ s2 ⟨n, ts, .go b, rfl, by show b < n; omega, rfl⟩ (by omega)⟩
  refine ⟨p, s1, G0, [strsL ts], rfl, rfl, ⟨ts, rfl, ht⟩, by omega, ?_⟩
  rintro d s2 ⟨ts', o, e, ho, rfl⟩ h2
  cases one_of e
  refine ⟨p, s2, n, G0, rfl, rfl, by omega, by omega, by omega, fun b s3 hb h3 => ?_⟩
  refine ⟨p, s3, n, G0, rfl, rfl, by omega, by omega, by omega, fun c s4 hc h4 => ?_⟩
  exact ⟨sz3 4, q _ s4 ⟨n, ts, .iff o b c, rfl, ⟨ho, by omega, by omega⟩, rfl⟩ (by omega)⟩
end DL

namespace DL
open PySem PySem.Spec PyProof.Rows L2
/-- a program over names -/
structure ProgOk (ts : List Str) (p : Prog) : Prop where
  ns : NmsOk 14 ts
  ne : ts ≠ []
  ps : ∃ j, j ≤ 4 ∧ p.params = ts.take j
  b1 : 1 ≤ p.blocks.length
  bl : p.blocks.length ≤ 6
  rl : ∀ b ∈ p.blocks, b.1.length ≤ 6
  ro : ∀ b ∈ p.blocks, ∀ r ∈ b.1, RowOk ts r
  ex : ∀ b ∈ p.blocks, ExitOk p.blocks.length ts b.2
theorem OneOk.names {ts : List Str} {o : One} {z : Str} (h : OneOk ts o) (hz : z ∈ o.names) : z ∈ ts := by
  cases o with
  | nm x => rw [show (One.nm x).names = [x] from rfl, List.mem_singleton] at hz; exact hz ▸ h
  | wo n => cases hz
theorem ones_ok {ts : List Str} {os : List One} {z : Str} (h : ∀ o ∈ os, OneOk ts o) (hz : z ∈ onesN os) : z ∈ ts := by
  obtain ⟨o, ho, hz⟩ := mem_flat.mp hz
  exact (h o ho).names hz
theorem RowOk.names {ts : List Str} {r : Row} {z : Str} (h : RowOk ts r) (hz : z ∈ rowN r) : z ∈ ts := by
  unfold rowN at hz
  rcases List.mem_append.mp hz with hz | hz
  · cases r with
    | set x e a b => rw [show (Row.set x e a b).sets = [x] from rfl, List.mem_singleton] at hz; exact hz ▸ h.1
    | copy x a => rw [show (Row.copy x a).sets = [x] from rfl, List.mem_singleton] at hz; exact hz ▸ h.1
    | tell a => cases hz
  · cases r with
    | set x e a b => exact ones_ok (os := [a, b]) (fun o ho => by simp at ho; rcases ho with rfl | rfl; exact h.2.2.1; exact h.2.2.2) hz
    | copy x a => exact ones_ok (os := [a]) (fun o ho => by simp at ho; rcases ho with rfl; exact h.2) hz
    | tell a => exact ones_ok (os := [a]) (fun o ho => by simp at ho; rcases ho with rfl; exact h) hz
theorem ExitOk.names {n : Nat} {ts : List Str} {e : Exit} {z : Str} (h : ExitOk n ts e) (hz : z ∈ e.reads) : z ∈ ts := by
  cases e with
  | fin => cases hz
  | go b => cases hz
  | iff a b c => exact ones_ok (os := [a]) (fun o ho => by simp at ho; rcases ho with rfl; exact h.1) hz
theorem ProgOk.names {ts : List Str} {p : Prog} (h : ProgOk ts p) {z : Str} (hz : z ∈ p.names) : z ∈ ts := by
  unfold Prog.names at hz
  rcases List.mem_append.mp hz with hz | hz
  · obtain ⟨j, _, e⟩ := h.ps
    rw [e] at hz
    exact List.mem_of_mem_take hz
  · obtain ⟨b, hb, hz⟩ := mem_flat.mp hz
    unfold blokN at hz
    rcases List.mem_append.mp hz with hz | hz
    · obtain ⟨r, hr, hz⟩ := mem_flat.mp hz
      exact (h.ro b hb r hr).names hz
    · exact (h.ex b hb).names hz
theorem ProgOk.few {ts : List Str} {p : Prog} (h : ProgOk ts p) : p.Few where
  pl := by
    obtain ⟨j, hj, e⟩ := h.ps
    rw [e, List.length_take]
    omega
  bl := Nat.le_trans h.bl (by decide)
  rl := fun b hb => Nat.le_trans (h.rl b hb) (by decide)
  nl := by
    have h1 := (srtO_nodup (l := p.names) linS).length_le_of_subset fun z hz => h.names ((mem_srtO linS).mp hz)
    have := h.ns.len
    omega
theorem ProgOk.led {ts : List Str} {p : Prog} (h : ProgOk ts p) : p.Led where
  ne := h.b1
  led := fun b hb k hk => by
    have he := h.ex b hb
    cases e : b.2 with
    | fin => rw [e] at hk; cases hk
    | go c =>
      rw [e] at hk he
      rw [show (Exit.go c).led = [c] from rfl, List.mem_singleton] at hk
      exact hk ▸ he
    | iff a c d =>
      rw [e] at hk he
      rw [show (Exit.iff a c d).led = [c, d] from rfl] at hk
      simp at hk
      rcases hk with rfl | rfl
      · exact he.2.1
      · exact he.2.2
theorem OneOk.mend {ts : List Str} {o : One} (h : OneOk ts o) (ns : List Str) : OneOk ts (o.mend ns) := by
  cases o with
  | nm x =>
    by_cases hx : x ∈ ns
    · rw [show One.mend ns (.nm x) = .wo 7 from if_pos hx]
      exact (by decide : 7 < 65536)
    · rw [show One.mend ns (.nm x) = .nm x from if_neg hx]
      exact h
  | wo n => exact h
theorem RowOk.mend {ts : List Str} {r : Row} (h : RowOk ts r) (ns : List Str) : RowOk ts (r.mend ns) := by
  cases r with
  | set x e a b => exact ⟨h.1, h.2.1, h.2.2.1.mend ns, h.2.2.2.mend ns⟩
  | copy x a => exact ⟨h.1, h.2.mend ns⟩
  | tell a => exact OneOk.mend h ns
theorem ExitOk.mend {n : Nat} {ts : List Str} {e : Exit} (h : ExitOk n ts e) (ns : List Str) : ExitOk n ts (e.mend ns) := by
  cases e with
  | fin => exact h
  | go b => exact h
  | iff a b c => exact ⟨h.1.mend ns, h.2⟩
theorem ProgOk.mendAt {ts : List Str} {p : Prog} (h : ProgOk ts p) (b r : Nat) (ns : List Str) : ProgOk ts (mendAt p b r ns) where
  ns := h.ns
  ne := h.ne
  ps := h.ps
  b1 := by
    show 1 ≤ (p.blocks.modify b _).length
    rw [List.length_modify]; exact h.b1
  bl := by
    show (p.blocks.modify b _).length ≤ 6
    rw [List.length_modify]; exact h.bl
  rl := fun bl hbl => by
    rcases mem_modify hbl with hbl | ⟨b0, hb0, rfl⟩
    · exact h.rl bl hbl
    · rw [mendBlok_len]; exact h.rl b0 hb0
  ro := fun bl hbl row hrow => by
    rcases mem_modify hbl with hbl | ⟨b0, hb0, rfl⟩
    · exact h.ro bl hbl row hrow
    · unfold mendBlok at hrow
      split at hrow
      · rcases mem_modify hrow with hrow | ⟨r0, hr0, rfl⟩
        · exact h.ro b0 hb0 row hrow
        · exact (h.ro b0 hb0 r0 hr0).mend ns
      · exact h.ro b0 hb0 row hrow
  ex := fun bl hbl => by
    show ExitOk (p.blocks.modify b _).length ts bl.2
    rw [List.length_modify]
    rcases mem_modify hbl with hbl | ⟨b0, hb0, rfl⟩
    · exact h.ex bl hbl
    · unfold mendBlok
      split
      · exact h.ex b0 hb0
      · exact (h.ex b0 hb0).mend ns
theorem ProgOk.mended {ts : List Str} {p p' : Prog} (h : ProgOk ts p) (m : Mended p p') : ProgOk ts p' := by
  induction m with
  | refl => exact h
  | step b r ns _ ih => exact ih.mendAt b r ns
def sp_l_wild_program : DSp := spN 1000 (fun es => es = []) fun _ d => ∃ ts p, ProgOk ts p ∧ d = p.d
theorem len_l_wild_program : LenS sp_l_wild_program 1 := by rintro ds G Q xq ⟨p, s, G0, es, rfl, _, rfl, _⟩; rfl
theorem cut_ts (ts : List Str) {j : Nat} (h : j ≤ ts.length) : cutD (ts.map D.str) none (some (j : Int)) = (ts.take j).map D.str := by
  rw [cut_hi _ (by rw [List.length_map]; exact h), List.map_take]
set_option maxHeartbeats 0 in
theorem body_l_wild_program : BodW [sp_l_exit, sp_l_some_row, spDrawB, sp_l_names] [] l_wild_programC 10 sp_l_wild_program := by
  rintro ds G Q xq ⟨p, s, G0, es, rfl, rfl, rfl, hs, q⟩
  refine ⟨sz3 3, p, s, 3, G0, rfl, rfl, by decide, by decide, by omega, fun k s1 hk h1 => ?_⟩
  have ⟨m, hm, hm1, hm2⟩ : ∃ m : Nat, atI [D.int 4, .int 8, .int 14] (k : Int) = some (.int m) ∧ 1 ≤ m ∧ m ≤ 14 := by
    have hk : k < 3 := by omega
    match k, hk with
    | 0, _ => exact ⟨4, rfl, by decide, by decide⟩
    | 1, _ => exact ⟨8, rfl, by decide, by decide⟩
    | 2, _ => exact ⟨14, rfl, by decide, by decide⟩
  refine ⟨_, hm, p, s1, m, G0, rfl, rfl, by omega, by omega, by omega, fun a s2 ha h2 => ?_⟩
  refine ⟨p, s2, G0, [.int (1 + (a : Int))], rfl, rfl, ⟨1 + a, by rw [Int.natCast_add]; rfl, by omega, by omega⟩, by omega, ?_⟩
  rintro d s3 ⟨ts, hts, hne, rfl⟩ h3
  have hl0 : 0 < ts.length := List.length_pos_iff.mpr hne
  have hl14 := hts.len
  refine ⟨p, s3, _, G0, rfl, rfl, ?_, ?_, by omega, fun j s4 hj h4 => ?_⟩
  · rw [List.length_map]; split <;> omega
  · rw [List.length_map]; split <;> omega
  have hj4 : j ≤ 4 ∧ j ≤ ts.length := by
    rw [List.length_map] at hj
    split at hj <;> omega
  clear hj
  refine ⟨p, s4, 8, G0, rfl, rfl, by decide, by decide, by omega, fun g s5 hg h5 => ?_⟩
  obtain ⟨big, hbig⟩ : ∃ big : Bool, ((g : Int) == 0) = big := ⟨_, rfl⟩
  refine ⟨p, s5, 6, G0, rfl, rfl, by decide, by decide, by omega, fun b6 s6 hb6 h6 => ⟨sz3 2, ?_⟩⟩
  have ⟨n, hn, hn1, hn6⟩ : ∃ n : Nat, atI [D.int (1 + (b6 : Int)), .int 6] (if ((g : Int) == 0) = true then 1 else 0) = some (.int n) ∧ 1 ≤ n ∧ n ≤ 6 := by
    rw [hbig]
    cases big with
    | true => exact ⟨6, rfl, by decide, by decide⟩
    | false => exact ⟨1 + b6, by rw [Int.natCast_add]; rfl, by omega, by omega⟩
  refine ⟨_, hn, sz3 0, fun a fa => ?_⟩
  have hap : a ≠ p := fun z => by
    subst z
    rw [put_same] at fa
    cases fa
  have fa0 : G0 a = none := by rw [put_ne hap] at fa; exact fa
  refine ⟨by omega, by omega, ?_⟩
  show forS _ _ _ _ _ _ _
  rw [cut_ts ts hj4.2]
  refine for_op (I := fun i ρ G1 => ∃ (bs : List Blok) (s' : Pn) (x6 x7 x8 x9 : Option D), ρ = [some (.ref p), some (strsL ts), some (.tup ((ts.take j).map D.str)), some (.bl ((g : Int) == 0)), some (.int n), some (.ref a), x6, x7, x8, x9] ∧ bs.length = i ∧ (∀ b ∈ bs, b.1.length ≤ 6 ∧ (∀ r ∈ b.1, RowOk ts r) ∧ ExitOk n ts b.2) ∧ s'.at_ ≤ s6.at_ + 100 * i ∧ G1 = put (put G0 a (.lst (bs.map blokD))) p s'.c) ?_ ?_ ?_
  · exact ⟨[], s6, _, _, _, _, rfl, rfl, by simp, by omega, (put_comm hap).symm⟩
  · rintro i x hx ρ G1 E ⟨bs, s', x6, x7, x8, x9, rfl, hbl, hbs, h7, rfl⟩ eN eC eR eB eX
    have hi := (List.getElem?_eq_some_iff.mp hx).1
    rw [rangeD_len] at hi
    have atA : ∀ {u : Cl} {v : Cl}, put (put G0 a u) p v a = some u := fun {u v} => by rw [put_ne hap]; exact put_same
    refine ⟨trivial, p, s', 7, put G0 a (.lst (bs.map blokD)), rfl, rfl, by decide, by decide, by omega, fun c7 s8 hc7 h8 => ⟨sz3 2, ?_⟩⟩
    have ⟨m, hm, hm6⟩ : ∃ m : Nat, atI [D.int (c7 : Int), .int 6] (if ((g : Int) == 0) = true then 1 else 0) = some (.int m) ∧ m ≤ 6 := by
      rw [hbig]
      cases big with
      | true => exact ⟨6, rfl, by decide⟩
      | false => exact ⟨c7, rfl, by omega⟩
    refine ⟨_, hm, by omega, by omega, ?_⟩
    show lcS _ _ _ _ _ _ _ _ _
    refine lc_ix (I := fun k acc G1 => ∃ (rs : List Row) (s9 : Pn), acc = rs.map Row.d ∧ rs.length = k ∧ (∀ r ∈ rs, RowOk ts r) ∧ s9.at_ ≤ s8.at_ + 12 * k ∧ G1 = put (put G0 a (.lst (bs.map blokD))) p s9.c) 0 ⟨[], s8, rfl, rfl, by simp, by omega, rfl⟩ ?_ ?_
    · rintro k y hy acc G1 N ⟨rs, s9, rfl, hrl, hro, h9, rfl⟩ hN
      have hk := (List.getElem?_eq_some_iff.mp hy).1
      rw [rangeD_len] at hk
      rw [Nat.zero_add] at hrl h9 hN
      refine ⟨trivial, p, s9, _, [strsL ts, strsL ts], rfl, rfl, ⟨ts, rfl, hne, hl14⟩, by omega, ?_⟩
      rintro d s10 ⟨ts', r, e, hr, rfl⟩ h10
      cases one_of (congrArg (List.take 1) e)
      refine ⟨by rw [List.length_map]; exact Nat.lt_of_le_of_lt (show _ ≤ 6 by omega) (by decide), hN _ _ ⟨rs ++ [r], s10, by simp, by simp [hrl], fun y hy => ?_, by omega, rfl⟩⟩
      rcases List.mem_append.mp hy with hy | hy
      · exact hro y hy
      · rw [List.mem_singleton] at hy
        exact hy ▸ hr
    · rintro acc G1 ⟨rs, s9, rfl, hrl, hro, h9, rfl⟩
      rw [rangeD_len, Nat.zero_add] at hrl h9
      refine ⟨trivial, ⟨rfl, _, atA⟩, p, s9, _, [.int n, strsL ts], rfl, rfl, ⟨n, ts, rfl, hn1, by omega, hl14⟩, by omega, ?_⟩
      rintro d s10 ⟨n', ts', e, ee, he, rfl⟩ h10
      cases one_of (congrArg (List.drop 1) ee)
      have en : n' = n := by
        injection ee with e1 _
        injection e1 with e1
        omega
      subst en
      refine ⟨sz3 2, _, atA, by rw [List.length_map]; exact Nat.lt_of_le_of_lt (show _ ≤ 6 by omega) (by decide), ?_⟩
      refine eN _ _ _ .refl ⟨bs ++ [(rs, e)], s10, _, _, _, _, rfl, by simp [hbl], fun y hy => ?_, by omega, ?_⟩
      · rcases List.mem_append.mp hy with hy | hy
        · exact hbs y hy
        · rw [List.mem_singleton] at hy
          subst hy
          exact ⟨by show rs.length ≤ 6; omega, hro, he⟩
      · rw [put_comm hap, put_put, ← put_comm hap, List.map_append]
        rfl
  · rintro ρ G1 ⟨bs, s', x6, x7, x8, x9, rfl, hbl, hbs, h7, rfl⟩
    rw [rangeD_len] at hbl h7
    have hbn : bs.length = n := by omega
    refine ⟨trivial, a, _, rfl, by rw [put_ne hap]; exact put_same, ?_⟩
    rw [put_comm hap, drop_put (by rw [put_ne hap]; exact fa0)]
    refine ⟨sz3 2, .of (q _ s' ⟨ts, ⟨ts.take j, bs⟩, ⟨hts, hne, ⟨j, hj4.1, rfl⟩, by show 1 ≤ bs.length; omega, by show bs.length ≤ 6; omega, fun b hb => (hbs b hb).1, fun b hb => (hbs b hb).2.1, fun b hb => ?_⟩, rfl⟩ (by omega))⟩
    have := (hbs b hb).2.2
    rw [← hbn] at this
    exact this
def sp_l_program : DSp := spN 1000 (fun es => es = []) fun _ d => ∃ ts p, ProgOk ts p ∧ UnsetIs p none ∧ d = p.d
theorem len_l_program : LenS sp_l_program 1 := by rintro ds G Q xq ⟨p, s, G0, es, rfl, _, rfl, _⟩; rfl
theorem body_l_program : Bod [sp_l_mended, sp_l_wild_program] [] l_programC 1 sp_l_program := by
  rintro ds G Q xq ⟨p, s, G0, es, rfl, rfl, rfl, hs, q⟩
  refine ⟨p, s, G0, [], rfl, rfl, rfl, hs, ?_⟩
  rintro d s1 ⟨ts, w, hw, rfl⟩ h1
  exact ⟨w, rfl, hw.led, hw.few, fun p' m hL hF hu => q _ s1 ⟨ts, p', hw.mended m, hu, rfl⟩ h1⟩
end DL

namespace DL
open PySem PySem.Spec PyProof.Rows L2
/-! the same, down to the kind -/
def PlainD : Nat → D → Prop
  | 0, _ => False
  | n + 1, d => match d with
    | .non => True
    | .bl _ => True
    | .int _ => True
    | .str _ => True
    | .tup ds => ds.length ≤ 1000 ∧ ∀ e ∈ ds, PlainD n e
    | .rl ds => ds.length ≤ 1000 ∧ ∀ e ∈ ds, PlainD n e
    | _ => False
def sp_l_sameB (n : Nat) : DSp := fun ds G Q _ => ∃ d, ds = [d, d] ∧ PlainD n d ∧ Q (.bl true) G
theorem sp_l_sameB_0 {ds : List D} {G : Sto} {Q : DQ} {xq : XQ} (h : sp_l_sameB 0 ds G Q xq) : False := by
  obtain ⟨d, _, h, _⟩ := h
  exact h
theorem len_l_sameB (n : Nat) : LenS (sp_l_sameB n) 2 := by rintro ds G Q xq ⟨d, rfl, _⟩; rfl
theorem zip_get {ds : List D} {i : Nat} {x : D} (h : (zipD ds ds)[i]? = some x) : ∃ d, d ∈ ds ∧ x = .tup [d, d] := by
  unfold zipD at h
  rw [List.getElem?_zipWith] at h
  cases e : ds[i]? with
  | none => rw [e] at h; cases h
  | some d => rw [e] at h; cases h; exact ⟨d, List.mem_of_getElem? e, rfl⟩
theorem all_rep (n : Nat) : (List.replicate n true).all id = true := by simp
/-- a list of the same things -/
theorem same_items {g : DG} {te : DE} {ρ0 : Ev} {keep : Sto → Prop} {fin : List D → Sto → Prop} {G : Sto} {ds : List D} (hl : ds.length ≤ 1000) (hk : keep G)
    (step : ∀ d ∈ ds, ∀ K : D → Sto → Prop, K (.bl true) G → g (.tup [d, d]) ρ0 G (fun ρ1 G1 => te ρ1 G1 K (fun _ _ => False)) (fun _ _ _ => False))
    (h : fin ((List.replicate ds.length true).map D.bl) G) : lcS g dYes te ρ0 keep fin (zipD ds ds) [] G := by
  refine lc_mapV (fun _ => .bl true) rfl (by rw [zipD_len, Nat.min_self]; exact Nat.lt_of_le_of_lt hl (by decide)) hk (fun i x hx K k => ?_) ?_
  · obtain ⟨d, hd, rfl⟩ := zip_get hx
    exact step d hd K k
  · rw [List.map_const', zipD_len, Nat.min_self]
    rw [List.map_replicate] at h
    exact h
theorem body_l_sameB (n : Nat) : Bod [sp_l_sameB n] [] sameBC 4 (sp_l_sameB (n + 1)) := by
  rintro ds G Q xq ⟨d, rfl, hd, q⟩
  match d, hd with
  | .non, _ => exact ⟨false, rfl, q⟩
  | .bl b, _ => 
    refine ⟨false, rfl, true, rfl, true, rfl, false, rfl, false, rfl, true, rfl, ?_⟩
    show Q (.bl (b == b)) G
    rw [beq_self_eq_true]
    exact q
  | .int b, _ => 
    refine ⟨false, rfl, false, rfl, false, rfl, false, rfl, false, rfl, true, rfl, ?_⟩
    show Q (.bl (b == b)) G
    rw [beq_self_eq_true]
    exact q
  | .str b, _ => 
    refine ⟨false, rfl, false, rfl, false, rfl, true, rfl, true, rfl, true, rfl, ?_⟩
    show Q (.bl (b == b)) G
    rw [beq_self_eq_true]
    exact q
  | .tup ds, h => 
    refine ⟨true, rfl, true, rfl, false, rfl, false, rfl, ?_⟩
    refine iteN (by simp) ?_
    show lcS _ _ _ _ _ _ _ _ _
    refine same_items h.1 trivial (fun d hd K k => ⟨rfl, d, rfl, h.2 d hd, k⟩) ?_
    exact ⟨_, rfl, by rw [all_rep]; exact q⟩
  | .rl ds, h => 
    refine ⟨true, rfl, true, rfl, true, rfl, true, rfl, ?_⟩
    refine iteN (by simp) ?_
    show lcS _ _ _ _ _ _ _ _ _
    refine same_items h.1 trivial (fun d hd K k => ⟨rfl, d, rfl, h.2 d hd, k⟩) ?_
    exact ⟨_, rfl, by rw [all_rep]; exact q⟩
end DL

namespace DL
open PySem PySem.Spec PyProof.Rows L2
/-! data by value -/
mutual
def okD : Nat → D → Bool
  | _, .non => true
  | _, .bl _ => true
  | _, .int _ => true
  | _, .str x => PyData.strOk x
  | n, .tup ds => (match n with
    | 0 => false
    | n + 1 => okDs n ds)
  | n, .rl ds => (match n with
    | 0 => false
    | n + 1 => okDs n ds)
  | _, _ => false
def okDs : Nat → List D → Bool
  | _, [] => true
  | n, d :: ds => okD n d && okDs n ds
end
mutual
def pyD : D → PyData
  | .bl b => .bool b
  | .int i => .int i
  | .str x => .str x
  | .tup ds => .tuple (pyDs ds)
  | .rl ds => .list (pyDs ds)
  | _ => .none
def pyDs : List D → List PyData
  | [] => []
  | d :: ds => pyD d :: pyDs ds
end
mutual
theorem okD_dd {G : Sto} : ∀ {d : D} {n : Nat}, okD n d = true → Dd G d (pyD d) ∧ PyData.canLay0 (pyD d) = true ∧ (pyD d).depth ≤ n
  | .non, n, _ => ⟨.non, rfl, Nat.zero_le _⟩
  | .bl b, n, _ => ⟨.bl b, rfl, Nat.zero_le _⟩
  | .int b, n, _ => ⟨.int b, rfl, Nat.zero_le _⟩
  | .str b, n, h => ⟨.str b, by unfold okD at h; exact h, Nat.zero_le _⟩
  | .tup ds, 0, h => by unfold okD at h; cases h
  | .tup ds, n + 1, h => by
    unfold okD at h
    obtain ⟨h1, h2, h3⟩ := okDs_dd (G := G) h
    unfold pyD
    exact ⟨.tup h1, h2, by unfold PyData.depth; omega⟩
  | .rl ds, 0, h => by unfold okD at h; cases h
  | .rl ds, n + 1, h => by
    unfold okD at h
    obtain ⟨h1, h2, h3⟩ := okDs_dd (G := G) h
    unfold pyD
    exact ⟨.rl h1, h2, by unfold PyData.depth; omega⟩
  | .ref _, n, h => by unfold okD at h; cases h
  | .ty _, n, h => by unfold okD at h; cases h
  | .sc _, n, h => by unfold okD at h; cases h
  | .rd _ _, n, h => by unfold okD at h; cases h
theorem okDs_dd {G : Sto} : ∀ {ds : List D} {n : Nat}, okDs n ds = true → Dds G ds (pyDs ds) ∧ PyData.canLayAll0 (pyDs ds) = true ∧ PyData.depthAll (pyDs ds) ≤ n
  | [], n, _ => ⟨.nil, rfl, Nat.zero_le _⟩
  | d :: ds, n, h => by
    unfold okDs at h
    rw [Bool.and_eq_true] at h
    obtain ⟨a1, a2, a3⟩ := okD_dd (G := G) h.1
    obtain ⟨b1, b2, b3⟩ := okDs_dd (G := G) h.2
    unfold pyDs
    refine ⟨.cons a1 b1, ?_, ?_⟩
    · unfold PyData.canLayAll0
      rw [a2, b2]
      rfl
    · unfold PyData.depthAll
      omega
end
mutual
theorem eqv_refl : ∀ d : D, PyData.eqv (pyD d) (pyD d) = true
  | .non => rfl
  | .bl b => by simp [pyD, PyData.eqv]
  | .int b => by simp [pyD, PyData.eqv]
  | .str b => by simp [pyD, PyData.eqv]
  | .tup ds => by
    unfold pyD PyData.eqv
    exact eqvs_refl ds
  | .rl ds => by
    unfold pyD PyData.eqv
    exact eqvs_refl ds
  | .ref _ => rfl
  | .ty _ => rfl
  | .sc _ => rfl
  | .rd _ _ => rfl
theorem eqvs_refl : ∀ ds : List D, PyData.eqvAll (pyDs ds) (pyDs ds) = true
  | [] => rfl
  | d :: ds => by
    unfold pyDs PyData.eqvAll
    rw [eqv_refl d, eqvs_refl ds]
    rfl
end
theorem okDs_mem {n : Nat} : ∀ {ds : List D}, okDs n ds = true ↔ ∀ d ∈ ds, okD n d = true
  | [] => ⟨fun _ d h => (List.not_mem_nil h).elim, fun _ => rfl⟩
  | d :: ds => by
    unfold okDs
    rw [Bool.and_eq_true, okDs_mem (ds := ds)]
    constructor
    · rintro ⟨h1, h2⟩ x hx
      rcases List.mem_cons.mp hx with rfl | hx
      · exact h1
      · exact h2 x hx
    · exact fun h => ⟨h d (by simp), fun x hx => h x (by simp [hx])⟩
theorem shaped_of {d : D} {n : Nat} (h : okD n d = true) (hn : n ≤ 64) : SeqAt.shaped (pyD d) = true := by
  obtain ⟨_, h2, h3⟩ := okD_dd (G := fun _ => none) h
  unfold SeqAt.shaped
  rw [h2, decide_eq_true (by omega)]
  rfl
theorem shaped_lst {ds : List D} {n : Nat} (h : okDs n ds = true) (hn : n ≤ 63) : SeqAt.shaped (.list (pyDs ds)) = true := by
  obtain ⟨_, h2, h3⟩ := okDs_dd (G := fun _ => none) h
  unfold SeqAt.shaped
  rw [show PyData.canLay0 (.list (pyDs ds)) = PyData.canLayAll0 (pyDs ds) from rfl, h2, decide_eq_true (show (PyData.list (pyDs ds)).depth ≤ 64 by unfold PyData.depth; omega)]
  rfl
/-- == of two lists of plain data -/
theorem eq_lst {a b : Addr} {xs ys : List D} {G : Sto} {Q : DQ} {n : Nat} (ha : G a = some (.lst xs)) (hb : G b = some (.lst ys)) (hx : okDs n xs = true) (hy : okDs n ys = true) (hn : n ≤ 63) (q : Q (.bl (PyData.eqvAll (pyDs xs) (pyDs ys))) G) : eqD (.ref a) (.ref b) G Q :=
  ⟨_, _, .lst ha (okDs_dd hx).1, .lst hb (okDs_dd hy).1, shaped_lst hx hn, shaped_lst hy hn, q⟩
theorem ne_lst {a b : Addr} {xs ys : List D} {G : Sto} {Q : DQ} {n : Nat} (ha : G a = some (.lst xs)) (hb : G b = some (.lst ys)) (hx : okDs n xs = true) (hy : okDs n ys = true) (hn : n ≤ 63) (q : Q (.bl (!PyData.eqvAll (pyDs xs) (pyDs ys))) G) : neD (.ref a) (.ref b) G Q :=
  ⟨_, _, .lst ha (okDs_dd hx).1, .lst hb (okDs_dd hy).1, shaped_lst hx hn, shaped_lst hy hn, q⟩
theorem eqvAll_nil {xs : List D} : PyData.eqvAll (pyDs xs) (pyDs []) = xs.isEmpty := by cases xs <;> rfl
theorem eq_tup {xs ys : List D} {G : Sto} {Q : DQ} {n : Nat} (hx : okDs n xs = true) (hy : okDs n ys = true) (hn : n ≤ 63) (q : Q (.bl (PyData.eqvAll (pyDs xs) (pyDs ys))) G) : eqD (.tup xs) (.tup ys) G Q := by
  cases ys with
  | nil =>
    rw [eqvAll_nil] at q
    exact q
  | cons y ys => exact ⟨_, _, .tup (okDs_dd hx).1, .tup (okDs_dd hy).1, shaped_of (d := .tup xs) (n := n + 1) hx (by omega), shaped_of (d := .tup (y :: ys)) (n := n + 1) hy (by omega), q⟩
theorem ne_tup {xs ys : List D} {G : Sto} {Q : DQ} {n : Nat} (hx : okDs n xs = true) (hy : okDs n ys = true) (hn : n ≤ 63) (q : Q (.bl (!PyData.eqvAll (pyDs xs) (pyDs ys))) G) : neD (.tup xs) (.tup ys) G Q := by
  cases ys with
  | nil =>
    rw [eqvAll_nil] at q
    exact q
  | cons y ys => exact ⟨_, _, .tup (okDs_dd hx).1, .tup (okDs_dd hy).1, shaped_of (d := .tup xs) (n := n + 1) hx (by omega), shaped_of (d := .tup (y :: ys)) (n := n + 1) hy (by omega), q⟩
theorem strs_ok {ts : List Str} (n : Nat) (h : ∀ t ∈ ts, PyData.strOk t = true) : okDs n (ts.map D.str) = true := by
  rw [okDs_mem]
  intro d hd
  obtain ⟨t, ht, rfl⟩ := List.mem_map.mp hd
  unfold okD
  exact h t ht
theorem eqvAll_strs : ∀ xs ys : List Str, PyData.eqvAll (pyDs (xs.map D.str)) (pyDs (ys.map D.str)) = decide (xs = ys)
  | [], [] => rfl
  | [], y :: ys => rfl
  | x :: xs, [] => rfl
  | x :: xs, y :: ys => by
    have ih := eqvAll_strs xs ys
    rw [List.map_cons, List.map_cons]
    unfold pyDs PyData.eqvAll
    rw [ih]
    show ((x == y) && decide (xs = ys)) = _
    by_cases h : x = y
    · subst h
      simp
    · simp [h]
theorem ne_strs {xs ys : List Str} {G : Sto} {Q : DQ} (hx : ∀ t ∈ xs, PyData.strOk t = true) (hy : ∀ t ∈ ys, PyData.strOk t = true) (q : Q (.bl (!decide (xs = ys))) G) : neD (strsD xs) (strsD ys) G Q := by
  refine ne_tup (n := 1) (strs_ok 1 hx) (strs_ok 1 hy) (by decide) ?_
  rw [eqvAll_strs]
  exact q
theorem NmOk.ok {t : Str} (h : NmOk t) : PyData.strOk t = true := by
  unfold PyData.strOk
  rw [← Array.all_toList, List.all_eq_true]
  intro c hc
  have := h.2.2 c hc
  unfold Letter at this
  exact decide_eq_true (by omega)
end DL

namespace DL
open PySem PySem.Spec PyProof.Rows L2
/-! names alive: read further on before they are set -/
def useL (x : Str) : List Ln → Bool
  | [] => false
  | l :: ls => decide (x ∈ l.reads) || (!setsB l x && useL x ls)
inductive Live (p : Prog) (x : Str) : Nat → Prop
  | use {b : Nat} {bl : Blok} : p.blocks[b]? = some bl → useL x (linesOf bl) = true → Live p x b
  | on {b c : Nat} {bl : Blok} : p.blocks[b]? = some bl → setsIn x bl = false → c ∈ bl.2.led → Live p x c → Live p x b
def aheadStep (found : List Str) (r : Row) : List Str := (found.filter fun x => !decide (x ∈ r.sets)) ++ r.reads.filter fun x => !decide (x ∈ found.filter fun x => !decide (x ∈ r.sets))
def aheadOf (names : List Str) (bl : Blok) : List Str := bl.1.reverse.foldl aheadStep (names ++ bl.2.reads.filter fun x => !decide (x ∈ names))
theorem mem_app_new {a b : List Str} {x : Str} : x ∈ a ++ (b.filter fun y => !decide (y ∈ a)) ↔ x ∈ a ∨ x ∈ b := by
  rw [List.mem_append, List.mem_filter]
  by_cases h : x ∈ a
  · simp [h]
  · simp [h]
theorem mem_aheadStep {f : List Str} {r : Row} {x : Str} : x ∈ aheadStep f r ↔ x ∈ r.reads ∨ (x ∈ f ∧ x ∉ r.sets) := by
  unfold aheadStep
  rw [mem_app_new, List.mem_filter]
  constructor
  · rintro (⟨h1, h2⟩ | h)
    · exact .inr ⟨h1, by simpa using h2⟩
    · exact .inl h
  · rintro (h | ⟨h1, h2⟩)
    · exact .inr h
    · exact .inl ⟨h1, by simpa using h2⟩
theorem setsB_row {r : Row} {x : Str} : setsB (.row r) x = decide (x ∈ r.sets) := by
  rw [Bool.eq_iff_iff, decide_eq_true_eq]
  show (r.sets.any fun y => y == x) = true ↔ _
  rw [List.any_eq_true]
  constructor
  · rintro ⟨y, hy, e⟩
    exact (eq_of_beq e) ▸ hy
  · exact fun h => ⟨x, h, beq_self_eq_true x⟩
theorem mem_ahead_rows {e : Exit} {names : List Str} {x : Str} : ∀ rows : List Row, x ∈ rows.foldr (fun r f => aheadStep f r) (names ++ e.reads.filter fun x => !decide (x ∈ names)) ↔ useL x (rows.map Ln.row ++ [.ex e]) = true ∨ (x ∈ names ∧ (rows.any fun r => setsB (.row r) x) = false)
  | [] => by
    rw [List.foldr_nil, mem_app_new, List.map_nil, List.nil_append]
    show _ ↔ (decide (x ∈ e.reads) || _) = true ∨ _
    simp [useL, or_comm]
  | r :: rows => by
    have ih := mem_ahead_rows (e := e) (names := names) (x := x) rows
    rw [List.foldr_cons, mem_aheadStep, ih, List.map_cons, List.cons_append]
    show _ ↔ (decide (x ∈ r.reads) || (!setsB (.row r) x && useL x (rows.map Ln.row ++ [.ex e]))) = true ∨ _
    rw [List.any_cons, setsB_row]
    by_cases h1 : x ∈ r.reads <;> by_cases h2 : x ∈ r.sets <;> simp [h1, h2]
theorem mem_ahead {names : List Str} {bl : Blok} {x : Str} : x ∈ aheadOf names bl ↔ useL x (linesOf bl) = true ∨ (x ∈ names ∧ setsIn x bl = false) := by
  unfold aheadOf
  rw [List.foldl_reverse]
  exact mem_ahead_rows bl.1
theorem useL_reads {x : Str} : ∀ {ls : List Ln}, useL x ls = true → ∃ l ∈ ls, x ∈ l.reads
  | [], h => by cases h
  | l :: ls, h => by
    have h : (decide (x ∈ l.reads) || (!setsB l x && useL x ls)) = true := h
    rw [Bool.or_eq_true, Bool.and_eq_true] at h
    rcases h with h | ⟨_, h⟩
    · exact ⟨l, by simp, of_decide_eq_true h⟩
    · obtain ⟨l', h1, h2⟩ := useL_reads h
      exact ⟨l', by simp [h1], h2⟩
theorem Live.name {p : Prog} {x : Str} {b : Nat} (h : Live p x b) : x ∈ p.names := by
  induction h with
  | use hb hu =>
    obtain ⟨l, hl, hx⟩ := useL_reads hu
    obtain ⟨r, hr⟩ := List.getElem?_of_mem hl
    exact reads_names hb hr hx
  | on _ _ _ _ ih => exact ih
/-! the fixpoint -/
/-- names behind a block -/
def behindOf (found : List (List Str)) (ks : List Nat) : List Str := ks.foldl (fun acc k => acc ++ ((found[k]?.getD []).filter fun x => !decide (x ∈ acc))) []
theorem mem_behind_go {found : List (List Str)} {x : Str} : ∀ (ks : List Nat) (acc : List Str), x ∈ ks.foldl (fun acc k => acc ++ ((found[k]?.getD []).filter fun x => !decide (x ∈ acc))) acc ↔ x ∈ acc ∨ ∃ k ∈ ks, x ∈ found[k]?.getD []
  | [], acc => by simp
  | k :: ks, acc => by
    rw [List.foldl_cons, mem_behind_go ks, mem_app_new]
    simp [or_assoc]
theorem mem_behind {found : List (List Str)} {ks : List Nat} {x : Str} : x ∈ behindOf found ks ↔ ∃ k ∈ ks, x ∈ found[k]?.getD [] := by
  unfold behindOf
  rw [mem_behind_go]
  simp
/-- what a block tells of its names -/
def nextOf (found : List (List Str)) (bl : Blok) : List Str := srtO ltS (aheadOf (behindOf found bl.2.led) bl)
theorem mem_next {found : List (List Str)} {bl : Blok} {x : Str} : x ∈ nextOf found bl ↔ useL x (linesOf bl) = true ∨ ((∃ k ∈ bl.2.led, x ∈ found[k]?.getD []) ∧ setsIn x bl = false) := by
  unfold nextOf
  rw [mem_srtO linS, mem_ahead, mem_behind]
/-- so far: all that is found is alive, and each block's names are kept by a turn -/
structure SoFar (p : Prog) (found : List (List Str)) : Prop where
  len : found.length = p.blocks.length
  inc : ∀ ns ∈ found, Inc ltS ns
  live : ∀ (b : Nat) (x : Str), x ∈ found[b]?.getD [] → Live p x b
  up : ∀ (b : Nat) (bl : Blok), p.blocks[b]? = some bl → ∀ x ∈ found[b]?.getD [], x ∈ nextOf found bl
theorem SoFar.next {p : Prog} {found : List (List Str)} (h : SoFar p found) {b : Nat} {bl : Blok} (hb : p.blocks[b]? = some bl) {x : Str} (hx : x ∈ nextOf found bl) : Live p x b := by
  rcases mem_next.mp hx with hu | ⟨⟨k, hk, hx⟩, hs⟩
  · exact .use hb hu
  · exact .on hb hs hk (h.live k x hx)
theorem set_getD {found : List (List Str)} {b k : Nat} {ns : List Str} (hb : b < found.length) : (found.set b ns)[k]?.getD [] = if k = b then ns else found[k]?.getD [] := by
  rw [List.getElem?_set]
  by_cases h : b = k
  · subst h
    simp [hb]
  · rw [if_neg h, if_neg (Ne.symm h)]
theorem SoFar.step {p : Prog} {found : List (List Str)} (h : SoFar p found) {b : Nat} {bl : Blok} (hb : p.blocks[b]? = some bl) : SoFar p (found.set b (nextOf found bl)) := by
  have hbl : b < found.length := by rw [h.len]; exact (List.getElem?_eq_some_iff.mp hb).1
  have grow : ∀ k x, x ∈ found[k]?.getD [] → x ∈ (found.set b (nextOf found bl))[k]?.getD [] := fun k x hx => by
    rw [set_getD hbl]
    by_cases e : k = b
    · rw [if_pos e]
      subst e
      exact h.up k bl hb x hx
    · rw [if_neg e]
      exact hx
  have mono : ∀ bl' x, x ∈ nextOf found bl' → x ∈ nextOf (found.set b (nextOf found bl)) bl' := fun bl' x hx => by
    rcases mem_next.mp hx with hu | ⟨⟨k, hk, hx⟩, hs⟩
    · exact mem_next.mpr (.inl hu)
    · exact mem_next.mpr (.inr ⟨⟨k, hk, grow k x hx⟩, hs⟩)
  refine ⟨by rw [List.length_set]; exact h.len, fun ns hns => ?_, fun c x hx => ?_, fun c bl' hc x hx => ?_⟩
  · rcases List.mem_or_eq_of_mem_set hns with hns | rfl
    · exact h.inc ns hns
    · exact inc_srtO linS
  · rw [set_getD hbl] at hx
    by_cases e : c = b
    · rw [if_pos e] at hx
      subst e
      exact h.next hb hx
    · rw [if_neg e] at hx
      exact h.live c x hx
  · rw [set_getD hbl] at hx
    by_cases e : c = b
    · rw [if_pos e] at hx
      subst e
      rw [hb] at hc
      cases hc
      exact mono bl x hx
    · rw [if_neg e] at hx
      exact mono bl' x (h.up c bl' hc x hx)
/-- nothing changes any more -/
theorem SoFar.fix {p : Prog} {found : List (List Str)} (h : SoFar p found) (hf : ∀ (b : Nat) (bl : Blok), p.blocks[b]? = some bl → nextOf found bl = found[b]?.getD []) {x : Str} {b : Nat} : x ∈ found[b]?.getD [] ↔ Live p x b := by
  refine ⟨h.live b x, fun l => ?_⟩
  induction l with
  | use hb hu =>
    rw [← hf _ _ hb]
    exact mem_next.mpr (.inl hu)
  | on hb hs hk _ ih =>
    rw [← hf _ _ hb]
    exact mem_next.mpr (.inr ⟨⟨_, hk, ih⟩, hs⟩)
/-- how much is found -/
def sizeF (found : List (List Str)) : Nat := (found.map List.length).sum
theorem sizeF_set {found : List (List Str)} {b : Nat} {ns : List Str} (hb : b < found.length) : sizeF (found.set b ns) + (found[b]?.getD []).length = sizeF found + ns.length := by
  unfold sizeF
  have e : found = found.take b ++ found[b] :: found.drop (b + 1) := by
    conv => lhs; rw [← List.take_append_drop b found, List.drop_eq_getElem_cons hb]
  have e2 : found.set b ns = found.take b ++ ns :: found.drop (b + 1) := List.set_eq_take_append_cons_drop .. |>.trans (by rw [if_pos hb])
  rw [e2]
  have e3 : (found.map List.length).sum = ((found.take b ++ found[b] :: found.drop (b + 1)).map List.length).sum := by rw [← e]
  rw [e3, List.getElem?_eq_getElem hb]
  simp only [List.map_append, List.sum_append, List.map_cons, List.sum_cons, Option.getD_some]
  omega
theorem SoFar.less {p : Prog} {found : List (List Str)} (h : SoFar p found) {b : Nat} {bl : Blok} (hb : p.blocks[b]? = some bl) (hne : nextOf found bl ≠ found[b]?.getD []) : sizeF found < sizeF (found.set b (nextOf found bl)) := by
  have hbl : b < found.length := by rw [h.len]; exact (List.getElem?_eq_some_iff.mp hb).1
  have hs := sizeF_set (ns := nextOf found bl) hbl
  have hi : Inc ltS (found[b]?.getD []) := by
    rw [List.getElem?_eq_getElem hbl]
    exact h.inc _ (List.getElem_mem hbl)
  have hsub := h.up b bl hb
  have hle := (inc_nodup linS hi).length_le_of_subset hsub
  by_cases hl : (found[b]?.getD []).length = (nextOf found bl).length
  · refine (hne ?_).elim
    refine inc_eq linS (inc_srtO linS) hi fun z => ⟨fun hz => ?_, fun hz => hsub z hz⟩
    apply Classical.byContradiction
    intro hn
    have : (z :: found[b]?.getD []).length ≤ (nextOf found bl).length := List.Nodup.length_le_of_subset (List.nodup_cons.mpr ⟨hn, inc_nodup linS hi⟩) fun y hy => by
      rcases List.mem_cons.mp hy with rfl | hy
      · exact hz
      · exact hsub y hy
    rw [List.length_cons] at this
    omega
  · omega
theorem SoFar.size {p : Prog} {found : List (List Str)} (h : SoFar p found) : sizeF found ≤ p.blocks.length * (srtO ltS p.names).length := by
  have hn : ∀ ns ∈ found, ns.length ≤ (srtO ltS p.names).length := fun ns hns => by
    obtain ⟨b, hb⟩ := List.getElem?_of_mem hns
    refine (inc_nodup linS (h.inc ns hns)).length_le_of_subset fun x hx => (mem_srtO linS).mpr ?_
    exact (h.live b x (by rw [hb]; exact hx)).name
  rw [← h.len]
  unfold sizeF
  generalize (srtO ltS p.names).length = m at hn
  clear h
  induction found with
  | nil => simp
  | cons ns found ih =>
    rw [List.map_cons, List.sum_cons, List.length_cons, Nat.add_mul, Nat.one_mul]
    have := hn ns (by simp)
    have := ih fun y hy => hn y (by simp [hy])
    omega
/-- what is alive, block by block -/
def aliveAt (p : Prog) (ns : List Str) (b : Nat) : Prop := Inc ltS ns ∧ ∀ x, x ∈ ns ↔ Live p x b
def AliveIs (p : Prog) (found : List (List Str)) : Prop := found.length = p.blocks.length ∧ ∀ b ns, found[b]? = some ns → aliveAt p ns b
theorem AliveIs.uniq {p : Prog} {f g : List (List Str)} (hf : AliveIs p f) (hg : AliveIs p g) : f = g := by
  refine List.ext_getElem? fun b => ?_
  by_cases h : b < p.blocks.length
  · have h1 : b < f.length := by rw [hf.1]; exact h
    have h2 : b < g.length := by rw [hg.1]; exact h
    rw [List.getElem?_eq_getElem h1, List.getElem?_eq_getElem h2]
    obtain ⟨i1, m1⟩ := hf.2 b _ (List.getElem?_eq_getElem h1)
    obtain ⟨i2, m2⟩ := hg.2 b _ (List.getElem?_eq_getElem h2)
    exact congrArg some (inc_eq linS i1 i2 fun z => (m1 z).trans (m2 z).symm)
  · rw [List.getElem?_eq_none (by rw [hf.1]; omega), List.getElem?_eq_none (by rw [hg.1]; omega)]
theorem SoFar.alive {p : Prog} {found : List (List Str)} (h : SoFar p found) (hf : ∀ (b : Nat) (bl : Blok), p.blocks[b]? = some bl → nextOf found bl = found[b]?.getD []) : AliveIs p found :=
  ⟨h.len, fun b ns hb => ⟨h.inc ns (List.mem_of_getElem? hb), fun x => by
    have := h.fix hf (x := x) (b := b)
    rw [hb] at this
    exact this⟩⟩
theorem SoFar.first (p : Prog) : SoFar p (p.blocks.map fun _ => []) := by
  have hn : ∀ (b : Nat) (x : Str), x ∈ (p.blocks.map fun _ => ([] : List Str))[b]?.getD [] → False := fun b x h => by
    rw [List.getElem?_map] at h
    cases e : p.blocks[b]? with
    | none => rw [e] at h; cases h
    | some y => rw [e] at h; cases h
  exact ⟨List.length_map .., fun ns hns => by
    obtain ⟨_, _, rfl⟩ := List.mem_map.mp hns
    exact List.Pairwise.nil, fun b x h => (hn b x h).elim, fun b bl _ x h => (hn b x h).elim⟩
end DL

namespace DL
open PySem PySem.Spec PyProof.Rows L2
/-- led_to: slots 0 exit_row; calls ; names  -/
def p_led_toC : CB := (.cons (.ifs (.cmp .Eq (.ix (.var 0) (.int 0)) (.str "go")) (.cons (.ret (.lstv (.cons (.ix (.var 0) (.int 1)) .nil))) .nil) .nil) (.cons (.ifs (.cmp .Eq (.ix (.var 0) (.int 0)) (.str "if")) (.cons (.ret (.lstv (.cons (.ix (.var 0) (.int 2)) (.cons (.ix (.var 0) (.int 3)) .nil)))) .nil) .nil) (.cons (.ret (.lstv .nil)) .nil)))
/-- ahead_of_rows: slots 0 names 1 rows 2 exit_row 3 found 4 row 5 name; calls read_by set_by read_by_exit; names  -/
def p_ahead_of_rowsC : CB := (.cons (.asg (.name 3) (.addv (.var 0) (.lcv [("name", 5)] (.name 5) (.it (.fn 2 (.cons (.var 2) .nil))) (.one (.cmp .NotIn (.var 5) (.var 0))) (.var 5)))) (.cons (.fors (.name 4) (.rev (.var 1)) (.cons (.asg (.name 3) (.lcv [("name", 5)] (.name 5) (.it (.var 3)) (.one (.cmp .NotIn (.var 5) (.fn 1 (.cons (.var 4) .nil)))) (.var 5))) (.cons (.asg (.name 3) (.addv (.var 3) (.lcv [("name", 5)] (.name 5) (.it (.fn 0 (.cons (.var 4) .nil))) (.one (.cmp .NotIn (.var 5) (.var 3))) (.var 5)))) .nil))) (.cons (.ret (.var 3)) .nil)))
/-- alive: slots 0 program 1 found 2 changed 3 block 4 b 5 behind 6 other 7 names 8 name; calls ahead_of_rows led_to; names  -/
def p_aliveC : CB := (.cons (.setLc 1 [("block", 3)] (.name 3) (.it (.ix (.var 0) (.int 1))) .no (.tup .nil)) (.cons (.asg (.name 2) (.bl true)) (.cons (.whil (.val (.var 2)) (.cons (.asg (.name 2) (.bl false)) (.cons (.fors (.tup 2 (.cons (.name 4) (.cons (.name 3) .nil))) (.enum (.ix (.var 0) (.int 1))) (.cons (.asg (.name 5) (.lst .nil)) (.cons (.fors (.name 6) (.it (.fn 1 (.cons (.ix (.var 3) (.int 1)) .nil))) (.cons (.expr (.mt .extend (.var 5) (.cons (.lcv [("name", 8)] (.name 8) (.it (.ix (.var 1) (.var 6))) (.one (.cmp .NotIn (.var 8) (.var 5))) (.var 8)) .nil))) .nil)) (.lk 5 (.cons (.asg (.name 7) (.blt .tuple (.cons (.ssetv (.fn 0 (.cons (.var 5) (.cons (.ix (.var 3) (.int 0)) (.cons (.ix (.var 3) (.int 1)) .nil))))) .nil))) (.cons (.ifs (.cmp .NotEq (.var 7) (.ix (.var 1) (.var 4))) (.cons (.asg (.sub (.var 1) (.var 4)) (.var 7)) (.cons (.asg (.name 2) (.bl true)) .nil)) .nil) .nil)))))) .nil))) (.lk 1 (.cons (.ret (.blt .tuple (.cons (.var 1) .nil))) .nil)))))
/-- _law_alive_at: slots 0 _law_program_here 1 _law_block 2 _law_name_here 3 _law_found 4 _law_waiting 5 _law_on 6 _law_row 7 _law_other 8 _law_rows 9 _law_leave; calls _law_led _law_sets _law_reads; names  -/
def l_alive_atC : CB := (.cons (.asg (.name 3) (.lst (.cons (.var 1) .nil))) (.cons (.asg (.name 4) (.lst (.cons (.var 1) .nil))) (.cons (.whil (.cmp .NotEq (.var 4) (.lstv .nil)) (.cons (.asg (.tup 2 (.cons (.name 8) (.cons (.name 9) .nil))) (.ix (.ix (.var 0) (.int 1)) (.mt .pop (.var 4) .nil))) (.cons (.asg (.name 5) (.bl true)) (.cons (.fors (.name 6) (.it (.addv (.lofv (.var 8)) (.lstv (.cons (.var 9) .nil)))) (.cons (.ifs (.and (.val (.var 5)) (.cmp .In (.var 2) (.fn 2 (.cons (.var 6) .nil)))) (.cons (.ret (.bl true)) .nil) .nil) (.cons (.asg (.name 5) (.and (.var 5) (.not (.fn 1 (.cons (.var 6) (.cons (.var 2) .nil)))))) .nil))) (.cons (.fors (.name 7) (.it (.fn 0 (.cons (.var 9) .nil))) (.cons (.ifs (.and (.val (.var 5)) (.cmp .NotIn (.var 7) (.var 3))) (.cons (.expr (.mt .append (.var 3) (.cons (.var 7) .nil))) (.cons (.expr (.mt .append (.var 4) (.cons (.var 7) .nil))) .nil)) .nil) .nil)) .nil))))) (.cons (.ret (.bl false)) .nil))))
/-- _law_alive: slots 0 _law_program_here 1 _law_found 2 _law_block 3 _law_name_here; calls _law_all_names _law_alive_at; names  -/
def l_aliveC : CB := (.cons (.asg (.name 1) (.lst .nil)) (.cons (.fors (.name 2) (.rng1 (.blt .len (.cons (.ix (.var 0) (.int 1)) .nil))) (.cons (.expr (.mt .append (.var 1) (.cons (.blt .tuple (.cons (.lcv [("_law_name_here", 3)] (.name 3) (.it (.fn 0 (.cons (.var 0) .nil))) (.one (.val (.fn 1 (.cons (.var 0) (.cons (.var 2) (.cons (.var 3) .nil)))))) (.var 3)) .nil)) .nil))) .nil)) (.lk 1 (.cons (.ret (.blt .tuple (.cons (.var 1) .nil))) .nil))))
/-- _law_in_a_row: slots 0 _law_pen_here 1 _law_params 2 _law_blocks 3 _law_left 4 _law_order 5 _law_way 6 _law_at 7 _law_k 8 _law_block 9 _law_rows 10 _law_leave; calls _law_draw; names  -/
def l_in_a_rowC : CB := (.cons (.par2 3 4 (.cons (.lst (.cons (.int 1) (.cons (.int 2) (.cons (.int 3) (.cons (.int 4) (.cons (.int 5) .nil)))))) (.cons (.lst (.cons (.int 0) .nil)) .nil))) (.cons (.par2 5 6 (.cons (.fn 0 (.cons (.var 0) (.cons (.int 3) .nil))) (.cons (.fn 0 (.cons (.var 0) (.cons (.int 9) .nil))) .nil))) (.cons (.whil (.cmp .NotEq (.var 3) (.lstv .nil)) (.cons (.expr (.mt .append (.var 4) (.cons (.mt .popAt (.var 3) (.cons (.ix (.lstv (.cons (.int 0) (.cons (.bin .Sub (.blt .len (.cons (.var 3) .nil)) (.int 1)) (.cons (.fn 0 (.cons (.var 0) (.cons (.blt .len (.cons (.var 3) .nil)) .nil))) .nil)))) (.var 5)) .nil)) .nil))) .nil)) (.lk 4 (.cons (.asg (.name 2) (.bin .Mult (.lst (.cons (.tup (.cons (.tup .nil) (.cons (.tup (.cons (.str "end") .nil)) .nil))) .nil)) (.int 6))) (.cons (.fors (.tup 2 (.cons (.name 7) (.cons (.name 8) .nil))) (.enum (.var 4)) (.cons (.asg (.name 9) (.bin .Mult (.tup (.cons (.tup (.cons (.str "set") (.cons (.str "x") (.cons (.str "add") (.cons (.int 1) (.cons (.int 2) .nil)))))) .nil)) (.blt .int (.cons (.cmp .Eq (.var 7) (.var 6)) .nil)))) (.cons (.asg (.name 10) (.tup (.cons (.str "end") .nil))) (.cons (.ifs (.cmp .Lt (.var 7) (.int 5)) (.cons (.asg (.name 10) (.ix (.lstv (.cons (.tup (.cons (.str "go") (.cons (.ix (.var 4) (.addv (.var 7) (.int 1))) .nil))) (.cons (.tup (.cons (.str "if") (.cons (.int 7) (.cons (.ix (.var 4) (.addv (.var 7) (.int 1))) (.cons (.ix (.var 4) (.addv (.var 7) (.int 1))) .nil))))) .nil))) (.fn 0 (.cons (.var 0) (.cons (.int 2) .nil))))) .nil) (.cons (.asg (.name 9) (.addv (.var 9) (.tup (.cons (.tup (.cons (.str "tell") (.cons (.str "x") .nil))) .nil)))) .nil)) (.cons (.asg (.sub (.var 2) (.var 8)) (.tup (.cons (.var 9) (.cons (.var 10) .nil)))) .nil))))) (.lk 2 (.cons (.ret (.tup (.cons (.var 1) (.cons (.blt .tuple (.cons (.var 2) .nil)) .nil)))) .nil))))))))
end DL

namespace DL
open PySem PySem.Spec PyProof.Rows L2
def sp_p_led_to : DSp := fun ds G Q _ => ∃ e : Exit, ds = [e.d] ∧ Q (natsL e.led) G
theorem len_p_led_to : LenS sp_p_led_to 1 := by rintro ds G Q xq ⟨s, rfl, _⟩; rfl
theorem body_p_led_to : Bod [] [] p_led_toC 1 sp_p_led_to := by
  rintro ds G Q xq ⟨e, rfl, q⟩
  cases e with
  | fin => exact ⟨_, rfl, _, rfl, sz3 0, q⟩
  | go b => exact ⟨_, rfl, _, rfl, sz3 1, q⟩
  | iff a b c => exact ⟨_, rfl, _, rfl, _, rfl, _, rfl, sz3 2, q⟩
theorem aheadStep_len (f : List Str) (r : Row) : (aheadStep f r).length ≤ f.length + 2 := by
  unfold aheadStep
  rw [List.length_append]
  have h1 := List.length_filter_le (fun x => !decide (x ∈ r.sets)) f
  have h2 := List.length_filter_le (fun x => !decide (x ∈ f.filter fun x => !decide (x ∈ r.sets))) r.reads
  have h3 : r.reads.length ≤ 2 := by
    cases r with
    | set x d a b => exact ones_len [a, b]
    | copy x a => exact Nat.le_trans (ones_len [a]) (show 1 ≤ 2 by decide)
    | tell a => exact Nat.le_trans (ones_len [a]) (show 1 ≤ 2 by decide)
  omega
def sp_p_ahead_of_rows : DSp := fun ds G Q _ => ∃ (ns : List Str) (bl : Blok), ds = [strsL ns, .tup (bl.1.map Row.d), bl.2.d] ∧ ns.length ≤ 1000 ∧ bl.1.length ≤ 10 ∧ Q (strsL (aheadOf ns bl)) G
theorem len_p_ahead_of_rows : LenS sp_p_ahead_of_rows 3 := by rintro ds G Q xq ⟨s, x, rfl, _⟩; rfl
/-- names that are not among others -/
theorem lc_new {te : DE} {tt : DT} {g : DG} {ρ0 : Ev} {keep : Sto → Prop} {fin : List D → Sto → Prop} {G : Sto} {xs ys : List Str} (hl : xs.length ≤ 2000) (hk : keep G)
    (step : ∀ x ∈ xs, ∀ (K : D → Sto → Prop) (N : Sto → Prop), (if (!memF (.str x) (ys.map D.str)) = true then K (.str x) G else N G) → g (.str x) ρ0 G (fun ρ1 G1 => tt ρ1 G1 (fun c G2 => if c = true then te ρ1 G2 K (fun _ _ => False) else N G2) (fun _ _ => False)) (fun _ _ _ => False))
    (h : fin ((xs.filter fun x => !decide (x ∈ ys)).map D.str) G) : lcS g tt te ρ0 keep fin (xs.map D.str) [] G := by
  refine lc_filtA D.str (fun x => !decide (x ∈ ys)) D.str rfl (Nat.lt_of_le_of_lt hl (by decide)) hk (fun i x hx K N n1 n2 => step x (List.mem_of_getElem? hx) K N ?_) h
  rw [memF_str]
  cases e : !decide (x ∈ ys) with
  | true => exact n1 e
  | false => exact n2 e
theorem body_p_ahead_of_rows : Bod [sp_p_read_by, sp_p_set_by, sp_p_read_by_exit] [] p_ahead_of_rowsC 6 sp_p_ahead_of_rows := by
  rintro ds G Q xq ⟨ns, bl, rfl, hn, hb, q⟩
  refine ⟨bl.2, rfl, ?_⟩
  show lcS _ _ _ _ _ _ _ _ _
  have he := exitR_len bl.2
  refine lc_new (ys := ns) (by omega) trivial (fun x _ K N k => ⟨rfl, strs_flat _, k⟩) ?_
  have hf := List.length_filter_le (fun x => !decide (x ∈ ns)) bl.2.reads
  refine ⟨?_, ?_⟩
  · simp only [List.length_map]; exact Nat.le_trans (m := 2000) (by omega) (by decide)
  show forS _ _ _ _ _ _ _
  refine for_op (I := fun i ρ G1 => (∃ (f : List Str) (x4 x5 : Option D), ρ = [some (strsL ns), some (.tup (bl.1.map Row.d)), some bl.2.d, some (strsL f), x4, x5] ∧ f = (bl.1.reverse.take i).foldl aheadStep (ns ++ bl.2.reads.filter fun x => !decide (x ∈ ns)) ∧ f.length ≤ 1001 + 2 * i) ∧ G1 = G) ?_ ?_ ?_
  · refine ⟨⟨_, none, none, ?_, rfl, by show (ns ++ bl.2.reads.filter fun x => !decide (x ∈ ns)).length ≤ _; rw [List.length_append]; omega⟩, rfl⟩
    show _ = [_, _, _, some (strsL (ns ++ bl.2.reads.filter fun x => !decide (x ∈ ns))), _, _]
    rw [show strsL (ns ++ bl.2.reads.filter fun x => !decide (x ∈ ns)) = .rl (ns.map D.str ++ (bl.2.reads.filter fun x => !decide (x ∈ ns)).map D.str) by unfold strsL; rw [List.map_append]]
    rfl
  · rintro i x hx ρ G1 E ⟨⟨f, x4, x5, rfl, hfe, hfl⟩, rfl⟩ eN eC eR eB eX
    rw [← List.map_reverse] at hx
    obtain ⟨r, hr, rfl⟩ := get_map hx
    have hi := (List.getElem?_eq_some_iff.mp hr).1
    rw [List.length_reverse] at hi
    have hs := aheadStep_len f r
    have hnx : aheadStep f r = (bl.1.reverse.take (i + 1)).foldl aheadStep (ns ++ bl.2.reads.filter fun x => !decide (x ∈ ns)) := by
      rw [← take_snoc hr, List.foldl_append, ← hfe]
      rfl
    refine ⟨trivial, ?_⟩
    show lcS _ _ _ _ _ _ _ _ _
    refine lc_new (xs := f) (ys := r.sets) (by omega) trivial (fun x _ K N k => ⟨r, rfl, rfl, strs_flat _, k⟩) ?_
    have hf1 := List.length_filter_le (fun x => !decide (x ∈ r.sets)) f
    refine ⟨r, rfl, ?_⟩
    show lcS _ _ _ _ _ _ _ _ _
    have hr2 : r.reads.length ≤ 3 := by
      have := rowN_len r
      unfold rowN at this
      rw [List.length_append] at this
      omega
    refine lc_new (xs := r.reads) (ys := f.filter fun x => !decide (x ∈ r.sets)) (by omega) trivial (fun x _ K N k => ⟨rfl, strs_flat _, k⟩) ?_
    have hf2 := List.length_filter_le (fun x => !decide (x ∈ f.filter fun x => !decide (x ∈ r.sets))) r.reads
    refine ⟨?_, ?_⟩
    · simp only [List.length_map]; exact Nat.le_trans (m := 2000) (by omega) (by decide)
    refine eN _ _ _ .refl ⟨⟨aheadStep f r, some r.d, x5, ?_, hnx, by omega⟩, rfl⟩
    have e : strsL (aheadStep f r) = .rl ((f.filter fun x => !decide (x ∈ r.sets)).map D.str ++ (r.reads.filter fun x => !decide (x ∈ f.filter fun x => !decide (x ∈ r.sets))).map D.str) := by unfold strsL aheadStep; rw [List.map_append]
    rw [e]
    rfl
  · rintro ρ G1 ⟨⟨f, x4, x5, rfl, hfe, hfl⟩, rfl⟩
    have e : f = aheadOf ns bl := by
      rw [hfe]
      unfold aheadOf
      rw [List.length_reverse, List.length_map, ← List.length_reverse, List.take_length]
    rw [← e] at q
    exact ⟨trivial, q⟩
end DL

namespace DL
open PySem PySem.Spec PyProof.Rows L2
theorem ixN_nat {n j : Nat} (h : j < n) : ixN n (j : Int) = some j := by
  unfold ixN
  simp
  omega
def aliveD (found : List (List Str)) : D := .tup (found.map strsD)
def sp_p_alive : DSp := fun ds G Q _ => ∃ p : Prog, ds = [p.d] ∧ p.Led ∧ p.Few ∧ (∀ x ∈ p.names, PyData.strOk x = true) ∧ ∀ found, AliveIs p found → Q (aliveD found) G
theorem len_p_alive : LenS sp_p_alive 1 := by rintro ds G Q xq ⟨s, rfl, _⟩; rfl
theorem behind_len {p : Prog} {found : List (List Str)} (h : SoFar p found) (hF : p.Few) : ∀ ks : List Nat, ks.length ≤ 2 → (behindOf found ks).length ≤ 64 * ks.length := by
  have h0 : ∀ k : Nat, (found[k]?.getD []).length ≤ 64 := fun k => by
    cases e : found[k]? with
    | none => simp
    | some ns =>
      have hn := hF.nl
      have : ns.length ≤ (srtO ltS p.names).length := (inc_nodup linS (h.inc ns (List.mem_of_getElem? e))).length_le_of_subset fun x hx => (mem_srtO linS).mpr (h.live k x (by rw [e]; exact hx)).name
      show ns.length ≤ 64
      omega
  have go : ∀ (ks : List Nat) (acc : List Str), (ks.foldl (fun acc k => acc ++ ((found[k]?.getD []).filter fun x => !decide (x ∈ acc))) acc).length ≤ acc.length + 64 * ks.length := by
    intro ks
    induction ks with
    | nil => intro acc; simp
    | cons k ks ih =>
      intro acc
      rw [List.foldl_cons, List.length_cons]
      have h1 := ih (acc ++ ((found[k]?.getD []).filter fun x => !decide (x ∈ acc)))
      have h2 := List.length_filter_le (fun x => !decide (x ∈ acc)) (found[k]?.getD [])
      have h3 := h0 k
      rw [List.length_append] at h1
      omega
  intro ks _
  have := go ks []
  unfold behindOf
  simpa using this
theorem next_len {p : Prog} {found : List (List Str)} (h : SoFar p found) (hF : p.Few) {b : Nat} {bl : Blok} (hb : p.blocks[b]? = some bl) : (nextOf found bl).length < 64 := by
  have := (inc_nodup linS (inc_srtO (l := aheadOf (behindOf found bl.2.led) bl) linS)).length_le_of_subset (l₂ := srtO ltS p.names) fun x hx => (mem_srtO linS).mpr (h.next hb hx).name
  have := hF.nl
  unfold nextOf
  omega
theorem ahead_len (ns : List Str) (bl : Blok) : (aheadOf ns bl).length ≤ ns.length + 1 + 2 * bl.1.length := by
  unfold aheadOf
  have go : ∀ (rs : List Row) (f : List Str), (rs.foldl aheadStep f).length ≤ f.length + 2 * rs.length := by
    intro rs
    induction rs with
    | nil => intro f; simp
    | cons r rs ih =>
      intro f
      rw [List.foldl_cons, List.length_cons]
      have h1 := ih (aheadStep f r)
      have h2 := aheadStep_len f r
      omega
  have h1 := go bl.1.reverse (ns ++ bl.2.reads.filter fun x => !decide (x ∈ ns))
  have h2 := List.length_filter_le (fun x => !decide (x ∈ ns)) bl.2.reads
  have h3 := exitR_len bl.2
  rw [List.length_append, List.length_reverse] at h1
  omega
theorem led_len (e : Exit) : e.led.length ≤ 2 := by cases e <;> simp [Exit.led]
set_option maxHeartbeats 0 in
theorem body_p_alive : BodW [sp_p_ahead_of_rows, sp_p_led_to] [] p_aliveC 9 sp_p_alive := by
  rintro ds G Q xq ⟨p, rfl, hL, hF, hN, q⟩
  refine ⟨_, rfl, ?_⟩
  show lcS _ _ _ _ _ _ _ _ _
  refine lc_mapA blokD (fun _ => .tup []) rfl (Nat.lt_of_le_of_lt hF.bl (by decide)) trivial (fun i x hx K k => ⟨sz3 0, k⟩) ?_
  intro a fa
  show sWhile _ _ _ _ _
  refine while_op (W := fun m ρ G1 => ∃ (found : List (List Str)) (ch : Bool), (∃ x3 x4 x5 x6 x7 x8, ρ = [some p.d, some (.ref a), some (.bl ch), x3, x4, x5, x6, x7, x8]) ∧ G1 = put G a (.lst (found.map strsD)) ∧ SoFar p found ∧ (ch = true → m = p.blocks.length * (srtO ltS p.names).length - sizeF found + 1) ∧ (ch = false → m = 0 ∧ ∀ (b : Nat) (bl : Blok), p.blocks[b]? = some bl → nextOf found bl = found[b]?.getD [])) (m0 := p.blocks.length * (srtO ltS p.names).length - sizeF (p.blocks.map fun _ => []) + 1) ?_ ?_
  · exact ⟨p.blocks.map fun _ => [], true, ⟨_, _, _, _, _, _, rfl⟩, by rw [List.map_map]; rfl, SoFar.first p, fun _ => rfl, fun h => by cases h⟩
  rintro m ρ G1 E ⟨found, ch, ⟨x3, x4, x5, x6, x7, x8, rfl⟩, rfl, hS, hm1, hm2⟩ eN eC eR eB eX
  cases ch with
  | false =>
    refine ⟨a, _, rfl, put_same, ?_⟩
    rw [drop_put fa]
    exact .of (q found (hS.alive (hm2 rfl).2))
  | true =>
    have hm := hm1 rfl
    refine ⟨_, rfl, ?_⟩
    show forS _ _ _ _ _ _ _
    refine for_op (I := fun i ρ G1 => ∃ (f : List (List Str)) (ch : Bool), (∃ x3 x4 x5 x6 x7 x8, ρ = [some p.d, some (.ref a), some (.bl ch), x3, x4, x5, x6, x7, x8]) ∧ G1 = put G a (.lst (f.map strsD)) ∧ SoFar p f ∧ (ch = true → sizeF found < sizeF f) ∧ (ch = false → f = found ∧ ∀ (b : Nat) (bl : Blok), b < i → p.blocks[b]? = some bl → nextOf found bl = found[b]?.getD [])) ?_ ?_ ?_
    · exact ⟨found, false, ⟨_, _, _, _, _, _, rfl⟩, rfl, hS, (fun h => by cases h), fun _ => ⟨rfl, fun b bl h => by omega⟩⟩
    · rintro b x hx ρ G1 E ⟨f, ch, ⟨x3, x4, x5, x6, x7, x8, rfl⟩, rfl, hf, h1, h2⟩ e2N e2C e2R e2B e2X
      obtain ⟨d, hd, rfl⟩ := enum_get hx
      obtain ⟨bl, hb, rfl⟩ := get_map hd
      have hblm := List.mem_of_getElem? hb
      have hbi := (List.getElem?_eq_some_iff.mp hb).1
      have hbf : b < f.length := by rw [hf.len]; exact hbi
      have hf10 : f.length ≤ 10 := by rw [hf.len]; exact hF.bl
      refine ⟨trivial, rfl, sz3 0, fun c fc => ?_⟩
      have hca : c ≠ a := fun z => by
        subst z
        rw [put_same] at fc
        cases fc
      have atA : ∀ {u v : Cl}, put (put G a u) c v a = some u := fun {u v} => by rw [put_ne (Ne.symm hca)]; exact put_same
      have hled := led_len bl.2
      refine ⟨_, rfl, bl.2, rfl, ?_⟩
      show forS _ _ _ _ (bl.2.led.map natD) _ _
      refine for_op (I := fun k ρ G1 => ∃ (acc : List Str) (x6 x7 x8 : Option D), ρ = [some p.d, some (.ref a), some (.bl ch), some (blokD bl), some (natD b), some (.ref c), x6, x7, x8] ∧ acc = behindOf f (bl.2.led.take k) ∧ G1 = put (put G a (.lst (f.map strsD))) c (.lst (acc.map D.str))) ?_ ?_ ?_
      · exact ⟨[], _, _, _, rfl, rfl, rfl⟩
      · rintro k y hy ρ G1 E3 ⟨acc, x6, x7, x8, rfl, hacc, rfl⟩ e3N e3C e3R e3B e3X
        obtain ⟨n, hn, rfl⟩ := get_map hy
        have hnl := hL.led bl hblm n (List.mem_of_getElem? hn)
        have hnf : n < f.length := by rw [hf.len]; exact hnl
        have hlen := behind_len hf hF (bl.2.led.take (k + 1)) (by rw [List.length_take]; omega)
        rw [List.length_take] at hlen
        have hnx : behindOf f (bl.2.led.take (k + 1)) = acc ++ ((f[n]?.getD []).filter fun x => !decide (x ∈ acc)) := by
          rw [← take_snoc hn, hacc]
          unfold behindOf
          rw [List.foldl_append]
          rfl
        rw [List.getElem?_eq_getElem hnf] at hnx
        rw [hnx, List.length_append] at hlen
        refine ⟨trivial, ⟨rfl, _, put_same⟩, _, _, atA, atI_nat (by rw [List.getElem?_map, List.getElem?_eq_getElem hnf]; rfl), ?_⟩
        show lcS _ _ _ _ _ _ _ _ _
        have hfn : (f[n]).length ≤ 2000 := by
          have hh := behind_len hf hF [n] (by simp)
          have he : behindOf f [n] = f[n].filter fun x => !decide (x ∈ ([] : List Str)) := by
            unfold behindOf
            rw [List.foldl_cons, List.foldl_nil, List.getElem?_eq_getElem hnf]
            rfl
          rw [he, List.filter_eq_self.mpr (fun x _ => by simp)] at hh
          have : [n].length = 1 := rfl
          omega
        refine lc_new (xs := f[n]) (ys := acc) hfn trivial (fun x _ K N k => .inl ⟨_, put_same, rfl, strs_flat _, k⟩) ?_
        refine ⟨_, put_same, ?_, ?_⟩
        · simp only [List.length_map]; exact Nat.le_trans (m := 2000) (by simp only [Option.getD_some] at hlen; omega) (by decide)
        refine e3N _ _ _ .refl ⟨behindOf f (bl.2.led.take (k + 1)), _, _, _, rfl, rfl, ?_⟩
        rw [put_put, hnx, map_app]
        rfl
      · rintro ρ G1 ⟨acc, x6, x7, x8, rfl, hacc, rfl⟩
        rw [List.length_map, List.take_length] at hacc
        subst hacc
        have hbl := behind_len hf hF bl.2.led hled
        have hal := ahead_len (behindOf f bl.2.led) bl
        have hr10 := hF.rl bl hblm
        refine ⟨trivial, c, _, rfl, put_same, ?_⟩
        rw [drop_put fc]
        refine ⟨_, rfl, _, rfl, behindOf f bl.2.led, bl, rfl, by omega, hr10, ?_⟩
        refine .inr ⟨aheadOf (behindOf f bl.2.led) bl, rfl, by omega, next_len hf hF hb, ?_⟩
        refine ⟨_, _, put_same, atI_nat (by rw [List.getElem?_map, List.getElem?_eq_getElem hbf]; rfl), ?_⟩
        have fb : f[b]?.getD [] = f[b] := by rw [List.getElem?_eq_getElem hbf]; rfl
        refine ne_strs (xs := nextOf f bl) (ys := f[b]) (fun t ht => hN t (hf.next hb ht).name) (fun t ht => hN t (hf.live b t (by rw [fb]; exact ht)).name) ?_
        by_cases hne : nextOf f bl = f[b]
        · refine iteN (by rw [decide_eq_true hne]; rfl) ?_
          refine e2N _ _ _ .refl ⟨f, ch, ⟨_, _, _, _, _, _, rfl⟩, rfl, hf, h1, fun hc => ?_⟩
          obtain ⟨rfl, h3⟩ := h2 hc
          refine ⟨rfl, fun b' bl' hb' hbl' => ?_⟩
          by_cases e : b' = b
          · subst e
            rw [hb] at hbl'
            cases hbl'
            rw [hne, fb]
          · exact h3 b' bl' (by omega) hbl'
        · refine iteY (by rw [decide_eq_false hne]; rfl) ?_
          have hless := hf.less hb (by rw [fb]; exact hne)
          refine ⟨_, b, put_same, ixN_nat (by rw [List.length_map]; exact hbf), ?_⟩
          rw [put_put]
          refine e2N _ _ _ .refl ⟨f.set b (nextOf f bl), true, ⟨_, _, _, _, _, _, rfl⟩, ?_, hf.step hb, fun _ => ?_, fun h => by cases h⟩
          · rw [List.map_set]
            rfl
          · cases ch with
            | true => have := h1 rfl; omega
            | false => obtain ⟨rfl, _⟩ := h2 rfl; exact hless
    · rintro ρ G1 ⟨f, ch, ⟨x3, x4, x5, x6, x7, x8, rfl⟩, rfl, hf, h1, h2⟩
      have hsz := hf.size
      refine ⟨trivial, ?_⟩
      cases ch with
      | true =>
        have := h1 rfl
        exact eN _ _ _ _ (by omega) .refl ⟨f, true, ⟨_, _, _, _, _, _, rfl⟩, rfl, hf, fun _ => rfl, fun h => by cases h⟩
      | false =>
        obtain ⟨rfl, h3⟩ := h2 rfl
        exact eN 0 _ _ _ (by omega) .refl ⟨f, false, ⟨_, _, _, _, _, _, rfl⟩, rfl, hf, (fun h => by cases h), fun _ => ⟨rfl, fun b bl hb => h3 b bl (by rw [enumD_len, List.length_map]; exact (List.getElem?_eq_some_iff.mp hb).1) hb⟩⟩
end DL

namespace DL
open PySem PySem.Spec PyProof.Rows L2
/-! the law's own search -/
structure AtI (p : Prog) (x : Str) (b : Nat) (s : List Nat × List Nat) : Prop where
  st : StU p s
  wn : s.2.Nodup
  bm : b ∈ s.1
  path : ∀ c ∈ s.1, Live p x c → Live p x b
  don : ∀ c ∈ s.1, c ∉ s.2 → ∀ bl, p.blocks[c]? = some bl → useL x (linesOf bl) = false ∧ (setsIn x bl = false → ∀ k ∈ bl.2.led, k ∈ s.1)
structure Pushed (ks : List Nat) (s s' : List Nat × List Nat) : Prop where
  old : ∀ k ∈ s.1, k ∈ s'.1
  new : ∀ k ∈ ks, k ∈ s'.1
  fro : ∀ k ∈ s'.1, k ∈ s.1 ∨ k ∈ ks
  wai : ∀ k ∈ s'.1, k ∉ s'.2 → k ∈ s.1 ∧ k ∉ s.2
  nod : s.2.Nodup → (∀ k ∈ s.2, k ∈ s.1) → s'.2.Nodup
  sub : (∀ k ∈ s.2, k ∈ s.1) → ∀ k ∈ s'.2, k ∈ s'.1
theorem pushed_one (k : Nat) (s : List Nat × List Nat) : Pushed [k] s (pushN s k) := by
  unfold pushN
  split
  · rename_i h
    exact ⟨fun _ h => h, fun j hj => by rw [List.mem_singleton] at hj; exact hj ▸ h, fun _ h => .inl h, fun _ h1 h2 => ⟨h1, h2⟩, fun h _ => h, fun h => h⟩
  · rename_i h
    refine ⟨fun j hj => List.mem_append.mpr (.inl hj), fun j hj => List.mem_append.mpr (.inr hj), fun j hj => ?_, fun j h1 h2 => ?_, fun h1 h2 => ?_, fun h1 j hj => ?_⟩
    · rcases List.mem_append.mp hj with hj | hj
      · exact .inl hj
      · exact .inr hj
    · have h2' : j ∉ s.2 ∧ j ∉ [k] := by
        constructor
        · exact fun z => h2 (List.mem_append.mpr (.inl z))
        · exact fun z => h2 (List.mem_append.mpr (.inr z))
      rcases List.mem_append.mp h1 with h1 | h1
      · exact ⟨h1, h2'.1⟩
      · exact (h2'.2 h1).elim
    · show (s.2 ++ [k]).Nodup
      rw [List.nodup_append]
      exact ⟨h1, by simp, fun a ha b hb => by rw [List.mem_singleton] at hb; subst hb; intro e; subst e; exact h (h2 a ha)⟩
    · rcases List.mem_append.mp hj with hj | hj
      · exact List.mem_append.mpr (.inl (h1 j hj))
      · exact List.mem_append.mpr (.inr hj)
theorem pushed_all : ∀ (ks : List Nat) (s : List Nat × List Nat), Pushed ks s (ks.foldl pushN s)
  | [], s => ⟨fun _ h => h, (fun _ h => by cases h), fun _ h => .inl h, fun _ h1 h2 => ⟨h1, h2⟩, fun h _ => h, fun h => h⟩
  | k :: ks, s => by
    have a := pushed_one k s
    have b := pushed_all ks (pushN s k)
    rw [List.foldl_cons]
    refine ⟨fun j hj => b.old j (a.old j hj), fun j hj => ?_, fun j hj => ?_, fun j h1 h2 => ?_, fun h1 h2 => b.nod (a.nod h1 h2) (a.sub h2), fun h => b.sub (a.sub h)⟩
    · rcases List.mem_cons.mp hj with rfl | hj
      · exact b.old _ (a.new _ (by simp))
      · exact b.new j hj
    · rcases b.fro j hj with hj | hj
      · rcases a.fro j hj with hj | hj
        · exact .inl hj
        · rw [List.mem_singleton] at hj
          exact .inr (by simp [hj])
      · exact .inr (by simp [hj])
    · obtain ⟨h3, h4⟩ := b.wai j h1 h2
      exact a.wai j h3 h4
def nextS (x : Str) (bl : Blok) (s : List Nat × List Nat) : List Nat × List Nat := if setsIn x bl = true then (s.1, s.2.dropLast) else bl.2.led.foldl pushN (s.1, s.2.dropLast)
theorem nodup_dropLast {l : List Nat} (h : l.Nodup) : l.dropLast.Nodup := h.sublist (List.dropLast_sublist l)
theorem last_split {l : List Nat} {c : Nat} (h : l.getLast? = some c) : l = l.dropLast ++ [c] := by
  have hne : l ≠ [] := fun z => by rw [z] at h; cases h
  rw [List.getLast?_eq_some_getLast hne] at h
  have := List.dropLast_concat_getLast hne
  rw [Option.some.inj h] at this
  exact this.symm
theorem AtI.next {p : Prog} {x : Str} {b c : Nat} {s : List Nat × List Nat} {bl : Blok} (h : AtI p x b s) (hL : p.Led) (hc : s.2.getLast? = some c) (hb : p.blocks[c]? = some bl) (hu : useL x (linesOf bl) = false) : AtI p x b (nextS x bl s) ∧ meaU p (nextS x bl s) < meaU p s := by
  have hs := last_split hc
  have hne : s.2 ≠ [] := fun z => by rw [z] at hc; cases hc
  have hcm : c ∈ s.2 := by rw [hs]; simp
  have hc1 : c ∈ s.1 := h.st.2.2 c hcm
  have mp := mea_pop (p := p) hne
  have hblm := List.mem_of_getElem? hb
  have out : ∀ k, k ∉ s.2.dropLast → k = c ∨ k ∉ s.2 := fun k hk => by
    by_cases e : k = c
    · exact .inl e
    · refine .inr fun z => ?_
      rw [hs] at z
      rcases List.mem_append.mp z with z | z
      · exact hk z
      · exact e (by simpa using z)
  unfold nextS
  by_cases hsi : setsIn x bl = true
  · rw [if_pos hsi]
    refine ⟨⟨h.st.pop, nodup_dropLast h.wn, h.bm, h.path, fun k h1 h2 bl' hbl' => ?_⟩, by omega⟩
    rcases out k h2 with rfl | h2
    · rw [hb] at hbl'
      cases hbl'
      exact ⟨hu, fun z => by rw [hsi] at z; cases z⟩
    · exact h.don k h1 h2 bl' hbl'
  · rw [if_neg hsi]
    have hsf : setsIn x bl = false := Bool.not_eq_true _ ▸ hsi
    have P := pushed_all bl.2.led (s.1, s.2.dropLast)
    obtain ⟨S2, m2⟩ := h.st.pop.pushes (hL.led bl hblm)
    refine ⟨⟨S2, P.nod (nodup_dropLast h.wn) h.st.pop.2.2, P.old _ h.bm, fun k hk lk => ?_, fun k h1 h2 bl' hbl' => ?_⟩, by omega⟩
    · rcases P.fro k hk with hk | hk
      · exact h.path k hk lk
      · exact h.path c hc1 (.on hb hsf hk lk)
    · obtain ⟨h3, h4⟩ := P.wai k h1 h2
      rcases out k h4 with rfl | h5
      · rw [hb] at hbl'
        cases hbl'
        exact ⟨hu, fun _ j hj => P.new j hj⟩
      · obtain ⟨a1, a2⟩ := h.don k h3 h5 bl' hbl'
        exact ⟨a1, fun z j hj => P.old j (a2 z j hj)⟩
theorem AtI.fin {p : Prog} {x : Str} {b : Nat} {s : List Nat × List Nat} (h : AtI p x b s) (he : s.2 = []) : ¬ Live p x b := by
  have all : ∀ c, Live p x c → c ∉ s.1 := by
    intro c l
    induction l with
    | use hb hu =>
      intro hc
      have := (h.don _ hc (by rw [he]; simp) _ hb).1
      rw [hu] at this
      cases this
    | on hb hs hk _ ih =>
      intro hc
      exact ih ((h.don _ hc (by rw [he]; simp) _ hb).2 hs _ hk)
  exact fun l => all b l h.bm
theorem AtI.first {p : Prog} {x : Str} {b : Nat} (hb : b < p.blocks.length) : AtI p x b ([b], [b]) :=
  ⟨⟨by simp, fun k hk => by simp at hk; omega, fun k hk => hk⟩, by simp, by simp, fun c hc l => by simp at hc; exact hc ▸ l, fun c h1 h2 => (h2 h1).elim⟩
end DL

namespace DL
open PySem PySem.Spec PyProof.Rows L2
def sp_l_alive_at : DSp := fun ds G Q _ => ∃ (p : Prog) (b : Nat) (x : Str), ds = [p.d, natD b, .str x] ∧ p.Led ∧ p.Few ∧ b < p.blocks.length ∧ ∀ t : Bool, (t = true ↔ Live p x b) → Q (.bl t) G
theorem len_l_alive_at : LenS sp_l_alive_at 3 := by rintro ds G Q xq ⟨p, b, x, rfl, _⟩; rfl
def onAt (x : Str) (ls : List Ln) (j : Nat) : Bool := !((ls.take j).any fun l => setsB l x)
theorem on_succ {x : Str} {ls : List Ln} {j : Nat} {l : Ln} (h : ls[j]? = some l) : onAt x ls (j + 1) = (onAt x ls j && !setsB l x) := by
  unfold onAt
  rw [← take_snoc h, List.any_append]
  simp
theorem use_drop {x : Str} {ls : List Ln} {j : Nat} {l : Ln} (h : ls[j]? = some l) : useL x (ls.drop j) = (decide (x ∈ l.reads) || (!setsB l x && useL x (ls.drop (j + 1)))) := by
  have hj := (List.getElem?_eq_some_iff.mp h).1
  rw [List.drop_eq_getElem_cons hj, (List.getElem?_eq_some_iff.mp h).2]
  rfl
theorem on_all {x : Str} {bl : Blok} : onAt x (linesOf bl) (linesOf bl).length = !setsIn x bl := by
  unfold onAt setsIn
  rw [List.take_length]
  unfold linesOf
  rw [List.any_append, List.any_map]
  have h : setsB (.ex bl.2) x = false := rfl
  simp [h]
  rfl
set_option maxHeartbeats 0 in
theorem body_l_alive_at : BodW [sp_l_led, sp_l_sets, sp_l_reads] [] l_alive_atC 10 sp_l_alive_at := by
  rintro ds G Q xq ⟨p, b, x, rfl, hL, hF, hbl, q⟩
  refine ⟨sz3 1, fun a fa => ⟨sz3 1, fun c fc => ?_⟩⟩
  have hac : c ≠ a := fun z => by
    subst z
    rw [put_same] at fc
    cases fc
  have fc0 : G c = none := by rw [put_ne hac] at fc; exact fc
  have atA : ∀ {u v : Cl}, put (put G a u) c v a = some u := fun {u v} => by rw [put_ne (Ne.symm hac)]; exact put_same
  have hdn : ∀ {u v : Cl}, Dn (put (put G a u) c v) G := fun {u v} => (Dn.new (by rw [put_ne hac]; exact fc0)).trans (.new fa)
  show sWhile _ _ _ _ _
  refine while_op (W := fun m ρ G1 => ∃ s, AtI p x b s ∧ m = meaU p s ∧ m ≤ 2 * p.blocks.length + 2 ∧ (∃ x5 x6 x7 x8 x9, ρ = [some p.d, some (natD b), some (.str x), some (.ref a), some (.ref c), x5, x6, x7, x8, x9]) ∧ G1 = put (put G a (.lst (s.1.map natD))) c (.lst (s.2.map natD))) (m0 := meaU p ([b], [b])) ?_ ?_
  · exact ⟨([b], [b]), AtI.first hbl, rfl, by unfold meaU; simp; omega, ⟨_, _, _, _, _, rfl⟩, rfl⟩
  rintro m ρ G1 E ⟨s, hS, rfl, hm, ⟨x5, x6, x7, x8, x9, rfl⟩, rfl⟩ eN eC eR eB eX
  have hbl10 := hF.bl
  have hw : s.2.length ≤ 22 := by
    unfold meaU at hm
    omega
  refine ⟨sz3 0, _, put_same, ?_⟩
  refine ite2 (fun h => ?_) (fun h => ?_)
  · have hne : s.2 ≠ [] := fun z => by
      rw [z] at h
      exact absurd h (by decide)
    obtain ⟨e, hb1, hb2⟩ := getLast_at hne
    have hem : e ∈ s.2 := List.mem_of_getElem? hb1
    have hel := hS.st.2.1 e (hS.st.2.2 e hem)
    obtain ⟨bl, hbl2⟩ : ∃ bl, p.blocks[e]? = some bl := ⟨_, List.getElem?_eq_getElem hel⟩
    have hblm := List.mem_of_getElem? hbl2
    have hat : atI (p.blocks.map blokD) (e : Int) = some (blokD bl) := atI_nat (by rw [List.getElem?_map, hbl2]; rfl)
    have hpop : (s.2.map natD)[(s.2.map natD).length - 1]? = some (natD e) := by rw [List.length_map, List.getElem?_map, hb1]; rfl
    have hr10 := hF.rl bl hblm
    refine ⟨_, rfl, ⟨rfl, _, put_same⟩, _, _, put_same, hpop, ?_⟩
    rw [put_put, ← List.map_dropLast]
    refine ⟨_, hat, rfl, sz3 1, by simp; exact sz320 (by omega), ?_⟩
    rw [← linesD]
    show forS _ _ _ _ _ _ _
    refine for_op (I := fun j ρ G1 => (∃ x6 x7, ρ = [some p.d, some (natD b), some (.str x), some (.ref a), some (.ref c), some (.bl (onAt x (linesOf bl) j)), x6, x7, some (.tup (bl.1.map Row.d)), some bl.2.d]) ∧ useL x (linesOf bl) = (onAt x (linesOf bl) j && useL x ((linesOf bl).drop j)) ∧ G1 = put (put G a (.lst (s.1.map natD))) c (.lst (s.2.dropLast.map natD))) ?_ ?_ ?_
    · exact ⟨⟨_, _, rfl⟩, rfl, rfl⟩
    · rintro j y hy ρ G1 E2 ⟨⟨x6, x7, rfl⟩, hu, rfl⟩ e2N e2C e2R e2B e2X
      obtain ⟨l, hl, rfl⟩ := get_map hy
      have hos := on_succ (x := x) hl
      rw [use_drop hl] at hu
      refine ⟨trivial, ?_⟩
      cases eo : onAt x (linesOf bl) j with
      | true =>
        rw [eo] at hos hu
        refine ⟨l, rfl, rfl, strs_flat _, ?_⟩
        refine ite2 (fun h => ?_) (fun h => ?_)
        · have h : memF (.str x) (l.reads.map D.str) = true := h
          rw [memF_str] at h
          rw [h] at hu
          have hlive : Live p x b := hS.path e (hS.st.2.2 e hem) (.use hbl2 (by rw [hu]; rfl))
          exact e2R _ _ (eR _ _ ⟨G, hdn, q true ⟨fun _ => hlive, fun _ => rfl⟩⟩)
        · have h : ¬ memF (.str x) (l.reads.map D.str) = true := h
          rw [memF_str, Bool.not_eq_true] at h
          rw [h] at hu
          refine ⟨l, x, rfl, ?_⟩
          refine e2N _ _ _ .refl ⟨⟨some l.d, x7, ?_⟩, ?_, rfl⟩
          · rw [hos]; rfl
          · rw [hos, hu]; simp
      | false =>
        rw [eo] at hos hu
        refine e2N _ _ _ .refl ⟨⟨some l.d, x7, ?_⟩, ?_, rfl⟩
        · rw [hos]; rfl
        · rw [hos, hu]; simp
    · rintro ρ G1 ⟨⟨x6, x7, rfl⟩, hu, rfl⟩
      rw [List.length_map] at hu ⊢
      rw [on_all, List.drop_length] at hu
      rw [on_all]
      have hu : useL x (linesOf bl) = false := by rw [hu]; show (_ && false) = false; simp
      obtain ⟨hN, hmN⟩ := hS.next hL hb2 hbl2 hu
      refine ⟨trivial, bl.2, rfl, ?_⟩
      show forS _ _ _ _ (bl.2.led.map natD) _ _
      have swap : ∀ u v w : Cl, put (put (put G a u) c v) a w = put (put G a w) c v := fun u v w => by
        rw [put_comm hac, put_put, ← put_comm hac]
      cases es : setsIn x bl with
      | true =>
        refine for_op (I := fun k ρ G1 => (∃ x6 x7, ρ = [some p.d, some (natD b), some (.str x), some (.ref a), some (.ref c), some (.bl false), x6, x7, some (.tup (bl.1.map Row.d)), some bl.2.d]) ∧ G1 = put (put G a (.lst (s.1.map natD))) c (.lst (s.2.dropLast.map natD))) ⟨⟨_, _, rfl⟩, rfl⟩ ?_ ?_
        · rintro k y hy ρ G1 E2 ⟨⟨x6, x7, rfl⟩, rfl⟩ e2N e2C e2R e2B e2X
          exact ⟨trivial, e2N _ _ _ .refl ⟨⟨_, _, rfl⟩, rfl⟩⟩
        · rintro ρ G1 ⟨⟨x6, x7, rfl⟩, rfl⟩
          unfold nextS at hN hmN
          rw [if_pos es] at hN hmN
          exact ⟨trivial, eN _ _ _ _ hmN .refl ⟨_, hN, rfl, by omega, ⟨_, _, _, _, _, rfl⟩, rfl⟩⟩
      | false =>
        unfold nextS at hN hmN
        rw [if_neg (by rw [es]; simp)] at hN hmN
        have pm := mea_pop (p := p) hne
        refine for_op (I := fun k ρ G1 => (∃ x6 x7, ρ = [some p.d, some (natD b), some (.str x), some (.ref a), some (.ref c), some (.bl true), x6, x7, some (.tup (bl.1.map Row.d)), some bl.2.d]) ∧ ∃ s', s' = (bl.2.led.take k).foldl pushN (s.1, s.2.dropLast) ∧ StU p s' ∧ meaU p s' ≤ meaU p (s.1, s.2.dropLast) ∧ G1 = put (put G a (.lst (s'.1.map natD))) c (.lst (s'.2.map natD))) ⟨⟨_, _, rfl⟩, _, rfl, hS.st.pop, Nat.le_refl _, rfl⟩ ?_ ?_
        · rintro k y hy ρ G1 E2 ⟨⟨x6, x7, rfl⟩, s', hs', hS', hm', rfl⟩ e2N e2C e2R e2B e2X
          obtain ⟨n, hn, rfl⟩ := get_map hy
          have hnl := hL.led bl hblm n (List.mem_of_getElem? hn)
          obtain ⟨hS3, hm3⟩ := hS'.push hnl
          have hl1 := hS'.len
          have hl2 : s'.2.length ≤ 22 := by
            have e1 : s'.2.length ≤ meaU p s' := by unfold meaU; omega
            omega
          have hnx : pushN s' n = (bl.2.led.take (k + 1)).foldl pushN (s.1, s.2.dropLast) := by
            rw [← take_snoc hn, List.foldl_append, ← hs']
            rfl
          refine ⟨trivial, .inl ⟨_, atA, rfl, nats_flat _, ?_⟩⟩
          refine ite2 (fun h => ?_) (fun h => ?_)
          · have hin : ¬ n ∈ s'.1 := fun z => by
              have h : (!memF (natD n) (s'.1.map natD)) = true := h
              rw [memF_nat, decide_eq_true z] at h
              cases h
            refine ⟨⟨rfl, _, atA⟩, _, atA, by rw [List.length_map]; exact Nat.lt_of_le_of_lt (Nat.le_trans hl1 hbl10) (by decide), ?_⟩
            rw [swap]
            refine ⟨⟨rfl, _, put_same⟩, _, put_same, by rw [List.length_map]; exact Nat.lt_of_le_of_lt hl2 (by decide), ?_⟩
            rw [put_put]
            have e3 : pushN s' n = (s'.1 ++ [n], s'.2 ++ [n]) := by unfold pushN; rw [if_neg hin]
            refine e2N _ _ _ .refl ⟨⟨_, _, rfl⟩, pushN s' n, hnx, hS3, Nat.le_trans hm3 hm', ?_⟩
            rw [e3]
            simp only [List.map_append]
            rfl
          · have hin : n ∈ s'.1 := by
              cases hd : decide (n ∈ s'.1) with
              | true => exact of_decide_eq_true hd
              | false =>
                refine (h ?_).elim
                show (!memF (natD n) (s'.1.map natD)) = true
                rw [memF_nat, hd]
                rfl
            refine e2N _ _ _ .refl ⟨⟨_, _, rfl⟩, s', ?_, hS', hm', rfl⟩
            rw [← hnx]
            unfold pushN
            rw [if_pos hin]
        · rintro ρ G1 ⟨⟨x6, x7, rfl⟩, s', hs', hS', hm', rfl⟩
          rw [List.length_map, List.take_length] at hs'
          subst hs'
          exact ⟨trivial, eN _ _ _ _ hmN .refl ⟨_, hN, rfl, by omega, ⟨_, _, _, _, _, rfl⟩, rfl⟩⟩
  · have hne : s.2 = [] := by
      cases e : s.2 with
      | nil => rfl
      | cons y ys => rw [e] at h; exact absurd rfl h
    exact ⟨G, hdn, q false ⟨(fun z => by cases z), fun l => (hS.fin hne l).elim⟩⟩
def sp_l_alive : DSp := fun ds G Q _ => ∃ p : Prog, ds = [p.d] ∧ p.Led ∧ p.Few ∧ ∀ found, AliveIs p found → Q (aliveD found) G
theorem len_l_alive : LenS sp_l_alive 1 := by rintro ds G Q xq ⟨p, rfl, _⟩; rfl
noncomputable def liveB (p : Prog) (b : Nat) (x : Str) : Bool := @decide (Live p x b) (Classical.propDecidable _)
theorem liveB_iff {p : Prog} {b : Nat} {x : Str} : liveB p b x = true ↔ Live p x b := by
  unfold liveB
  exact @decide_eq_true_iff _ (Classical.propDecidable _)
set_option maxHeartbeats 0 in
theorem body_l_alive : BodW [sp_l_all_names, sp_l_alive_at] [] l_aliveC 4 sp_l_alive := by
  rintro ds G Q xq ⟨p, rfl, hL, hF, q⟩
  refine ⟨sz3 0, fun a fa => ?_⟩
  have hbl10 := hF.bl
  have hnl : (srtO ltS p.names).length < 64 := hF.nl
  have hlen : (p.blocks.map blokD).length = p.blocks.length := List.length_map ..
  refine ⟨_, rfl, ?_, ?_, ?_⟩
  · show -(2 ^ 62) ≤ (((p.blocks.map blokD).length : Nat) : Int); omega
  · show (((p.blocks.map blokD).length : Nat) : Int) < 2 ^ 62; omega
  show forS _ _ _ _ (rangeD 0 (((p.blocks.map blokD).length : Nat) : Int).toNat) _ _
  refine for_op (I := fun i ρ G1 => ∃ (f : List (List Str)) (x2 x3 : Option D), ρ = [some p.d, some (.ref a), x2, x3] ∧ f.length = i ∧ (∀ b ns, f[b]? = some ns → aliveAt p ns b) ∧ G1 = put G a (.lst (f.map strsD))) ?_ ?_ ?_
  · exact ⟨[], _, _, rfl, rfl, fun b ns h => by simp at h, rfl⟩
  · rintro i y hy ρ G1 E ⟨f, x2, x3, rfl, hf, hfa, rfl⟩ eN eC eR eB eX
    have hi := (List.getElem?_eq_some_iff.mp hy).1
    rw [rangeD_len] at hi
    have hyv : y = natD i := by
      unfold rangeD at hy
      rw [List.getElem?_map, List.getElem?_range (by omega)] at hy
      have := (Option.some.inj hy).symm
      rw [this]
      show D.int (0 + (i : Int)) = D.int (i : Int)
      rw [Int.zero_add]
    subst hyv
    refine ⟨trivial, ⟨rfl, _, put_same⟩, p, rfl, hF, ?_⟩
    show lcS _ _ _ _ _ _ _ _ _
    refine lc_filtA D.str (liveB p i) D.str rfl (Nat.lt_of_lt_of_le hnl (by decide)) trivial (fun k x hx K N n1 n2 => ?_) ?_
    · refine ⟨p, i, x, rfl, hL, hF, by omega, fun t ht => ?_⟩
      have e : liveB p i x = t := by
        rw [Bool.eq_iff_iff, ht]
        exact liveB_iff
      cases t with
      | true => exact n1 e
      | false => exact n2 e
    refine ⟨_, put_same, by rw [List.length_map]; exact Nat.lt_of_le_of_lt (show _ ≤ 10 by omega) (by decide), ?_⟩
    rw [put_put]
    refine eN _ _ _ .refl ⟨f ++ [(srtO ltS p.names).filter (liveB p i)], _, _, rfl, by simp [hf], fun b ns hb => ?_, ?_⟩
    · by_cases e : b < f.length
      · rw [List.getElem?_append_left e] at hb
        exact hfa b ns hb
      · have hb1 := (List.getElem?_eq_some_iff.mp hb).1
        rw [List.length_append, List.length_singleton] at hb1
        have e2 : b = i := by omega
        subst e2
        rw [List.getElem?_append_right (by omega), show b - f.length = 0 by omega] at hb
        have hb := Option.some.inj hb
        subst hb
        refine ⟨List.Pairwise.filter _ (inc_srtO linS), fun x => ?_⟩
        rw [List.mem_filter, mem_srtO linS, liveB_iff]
        exact ⟨fun h => h.2, fun h => ⟨h.name, h⟩⟩
    · rw [List.map_append]
      rfl
  · rintro ρ G1 ⟨f, x2, x3, rfl, hf, hfa, rfl⟩
    rw [rangeD_len] at hf
    refine ⟨trivial, a, _, rfl, put_same, ?_⟩
    rw [drop_put fa]
    exact .of (q f ⟨by omega, hfa⟩)
end DL

namespace DL
open PySem PySem.Spec PyProof.Rows L2
/-! blocks in a row -/
def rowsRow (k att : Nat) : List Row := (if k = att then [.set "x" "add" (.wo 1) (.wo 2)] else []) ++ (if k < 5 then [] else [.tell (.nm "x")])
def ExRow (o : List Nat) (k : Nat) (e : Exit) : Prop := (k < 5 ∧ ∃ n, o[k + 1]? = some n ∧ (e = .go n ∨ e = .iff (.wo 7) n n)) ∨ (k = 5 ∧ e = .fin)
structure InRow (ps : List Str) (pr : Prog) (o : List Nat) (att : Nat) : Prop where
  ps : pr.params = ps
  perm : o.Perm (List.range 6)
  hd : o.head? = some 0
  len : pr.blocks.length = 6
  blk : ∀ k b, o[k]? = some b → ∃ e, pr.blocks[b]? = some (rowsRow k att, e) ∧ ExRow o k e
def sp_l_in_a_row : DSp := spN 20 (fun es => ∃ ps : List Str, es = [strsD ps]) fun es d => ∃ ps pr o att, es = [strsD ps] ∧ InRow ps pr o att ∧ d = pr.d
theorem len_l_in_a_row : LenS sp_l_in_a_row 2 := by rintro ds G Q xq ⟨p, s, G0, es, rfl, _, ⟨ps, rfl⟩, _⟩; rfl
theorem put_mid {G : Sto} {a c p : Addr} {u v w u' : Cl} (hac : a ≠ c) (hap : a ≠ p) : put (put (put (put G a u) c v) p w) a u' = put (put (put G a u') c v) p w := by
  rw [put_comm (Ne.symm hap), put_comm (Ne.symm hac), put_put]
theorem put_mid2 {G : Sto} {c p : Addr} {v w v' : Cl} (hcp : c ≠ p) : put (put (put G c v) p w) c v' = put (put G c v') p w := by
  rw [put_comm (Ne.symm hcp), put_put]
theorem perm_erase {y : Nat} : ∀ {left : List Nat} {k : Nat}, left[k]? = some y → (y :: left.eraseIdx k).Perm left
  | [], k, h => by simp at h
  | z :: left, 0, h => by
    have h := Option.some.inj h
    subst h
    exact List.Perm.refl _
  | z :: left, k + 1, h => by
    have ih := perm_erase (left := left) (k := k) h
    exact (List.Perm.swap z y _).trans (ih.cons z)
theorem map_erase {f : Nat → D} : ∀ {l : List Nat} {k : Nat}, (l.map f).eraseIdx k = (l.eraseIdx k).map f
  | [], k => rfl
  | z :: l, 0 => rfl
  | z :: l, k + 1 => congrArg (fun t => f z :: t) (map_erase (l := l) (k := k))
theorem perm_pick {order left : List Nat} {k : Nat} {y : Nat} (h : (order ++ left).Perm (List.range 6)) (hk : left[k]? = some y) : ((order ++ [y]) ++ left.eraseIdx k).Perm (List.range 6) := by
  have hl := (List.getElem?_eq_some_iff.mp hk).1
  have he := (List.getElem?_eq_some_iff.mp hk).2
  refine List.Perm.trans ?_ h
  rw [List.append_assoc]
  refine List.Perm.append_left order ?_
  exact perm_erase hk
set_option maxHeartbeats 0 in
theorem body_l_in_a_row : BodW [spDrawB] [] l_in_a_rowC 11 sp_l_in_a_row := by
  rintro ds G Q xq ⟨p, s, G0, es, rfl, rfl, ⟨ps, rfl⟩, hs, q⟩
  refine ⟨sz3 5, fun a fa => ⟨sz3 1, fun c fc => ?_⟩⟩
  have hap : a ≠ p := fun z => by subst z; rw [put_same] at fa; cases fa
  have hca : c ≠ a := fun z => by subst z; rw [put_same] at fc; cases fc
  have fc1 : put G0 p s.c c = none := by rw [put_ne hca] at fc; exact fc
  have hcp : c ≠ p := fun z => by subst z; rw [put_same] at fc1; cases fc1
  have fa0 : G0 a = none := by rw [put_ne hap] at fa; exact fa
  have fc0 : G0 c = none := by rw [put_ne hcp] at fc1; exact fc1
  have atA : ∀ {u v w : Cl}, put (put (put G0 a u) c v) p w a = some u := fun {u v w} => by rw [put_ne hap, put_ne (Ne.symm hca)]; exact put_same
  have atC : ∀ {u v w : Cl}, put (put (put G0 a u) c v) p w c = some v := fun {u v w} => by rw [put_ne hcp]; exact put_same
  refine ⟨p, s, 3, put (put G0 a (.lst ([1, 2, 3, 4, 5].map natD))) c (.lst ([0].map natD)), rfl, by rw [put_comm hcp, put_comm hap]; rfl, by decide, by decide, by omega, fun w s1 hw h1 => ?_⟩
  refine ⟨p, s1, 9, _, rfl, rfl, by decide, by decide, by omega, fun att s2 hatt h2 => ?_⟩
  show sWhile _ _ _ _ _
  refine while_op (W := fun m ρ G1 => ∃ (left order : List Nat) (s' : Pn), m = left.length ∧ (order ++ left).Perm (List.range 6) ∧ order.head? = some 0 ∧ s'.at_ ≤ s2.at_ + order.length ∧ (∃ x2 x7 x8 x9 x10, ρ = [some (.ref p), some (strsD ps), x2, some (.ref a), some (.ref c), some (natD w), some (natD att), x7, x8, x9, x10]) ∧ G1 = put (put (put G0 a (.lst (left.map natD))) c (.lst (order.map natD))) p s'.c) (m0 := 5) ?_ ?_
  · exact ⟨[1, 2, 3, 4, 5], [0], s2, rfl, by decide, rfl, by omega, ⟨_, _, _, _, _, rfl⟩, rfl⟩
  · rintro m ρ G1 E ⟨left, order, s', rfl, hP, hH, h3, ⟨x2, x7, x8, x9, x10, rfl⟩, rfl⟩ eN eC eR eB eX
    have hlen := hP.length_eq
    rw [List.length_append, List.length_range] at hlen
    refine ⟨sz3 0, _, atA, ?_⟩
    refine ite2 (fun h => ?_) (fun h => ?_)
    · have hne : left ≠ [] := fun z => by
        rw [z] at h
        exact absurd h (by decide)
      have hl0 := List.length_pos_iff.mpr hne
      refine ⟨⟨rfl, _, atC⟩, ⟨rfl, _, atA⟩, _, atA, _, atA, ?_⟩
      refine ⟨p, s', _, _, rfl, rfl, by rw [List.length_map]; omega, by rw [List.length_map]; omega, by omega, fun j s4 hj h4 => ⟨sz3 3, ?_⟩⟩
      rw [List.length_map] at hj
      have ⟨k, hk, hkl⟩ : ∃ k : Nat, atI [D.int 0, .int (((left.map natD).length : Nat) - 1 : Int), .int (j : Int)] (w : Int) = some (natD k) ∧ k < left.length := by
        have hw : w < 3 := by omega
        match w, hw with
        | 0, _ => exact ⟨0, rfl, hl0⟩
        | 1, _ => exact ⟨left.length - 1, by
            have e : (((left.map natD).length : Nat) - 1 : Int) = ((left.length - 1 : Nat) : Int) := by rw [List.length_map]; omega
            show some (D.int (((left.map natD).length : Nat) - 1 : Int)) = _
            rw [e]; rfl, by omega⟩
        | 2, _ => exact ⟨j, rfl, by omega⟩
      refine ⟨_, hk, _, k, natD left[k], rfl, by omega, atA, by rw [List.getElem?_map, List.getElem?_eq_getElem hkl]; rfl, ?_⟩
      rw [put_mid (Ne.symm hca) hap]
      refine ⟨_, atC, by rw [List.length_map]; exact Nat.lt_of_le_of_lt (show _ ≤ 6 by omega) (by decide), ?_⟩
      rw [put_mid2 hcp]
      have hel : (left.eraseIdx k).length = left.length - 1 := List.length_eraseIdx_of_lt hkl
      refine eN (left.eraseIdx k).length _ _ _ (by omega) .refl ⟨left.eraseIdx k, order ++ [left[k]], s4, rfl, perm_pick hP (List.getElem?_eq_getElem hkl), ?_, ?_, ⟨_, _, _, _, _, rfl⟩, ?_⟩
      · cases order with
        | nil => cases hH
        | cons y ys => exact hH
      · rw [List.length_append, List.length_singleton]; omega
      · rw [List.map_append, map_erase]; rfl
    · have hne : left = [] := by
        cases e : left with
        | nil => rfl
        | cons y ys => rw [e] at h; exact absurd rfl h
      subst hne
      rw [List.append_nil] at hP
      rw [List.length_nil, Nat.add_zero] at hlen
      refine ⟨c, _, rfl, atC, ?_⟩
      rw [put_comm hcp, drop_put (by rw [put_ne hcp, put_ne hca]; exact fc0)]
      refine ⟨sz3 0, sz3 1, sz3 2, sz3 1, fun t ft => ⟨_, put_same, by decide, by decide, by decide, fun b2 fb => ?_⟩⟩
      have htp : t ≠ p := fun z => by subst z; rw [put_same] at ft; cases ft
      have hbt : b2 ≠ t := fun z => by subst z; rw [put_same] at fb; cases fb
      have fb1 := fb
      rw [put_ne hbt] at fb1
      have hbp : b2 ≠ p := fun z => by subst z; rw [put_same] at fb1; cases fb1
      have fta : (put G0 a (.lst [])) t = none := by rw [put_ne htp] at ft; exact ft
      have fba : (put G0 a (.lst [])) b2 = none := by rw [put_ne hbp] at fb1; exact fb1
      show forS _ _ _ _ (enumD (order.map natD)) _ _
      refine for_op (I := fun i ρ G1 => ∃ (bs : List Blok) (s5 : Pn) (x7 x8 x9 x10 : Option D), ρ = [some (.ref p), some (strsD ps), some (.ref b2), some (.ref a), some (.rl (order.map natD)), some (natD w), some (natD att), x7, x8, x9, x10] ∧ bs.length = 6 ∧ (∀ k b, k < i → order[k]? = some b → ∃ e, bs[b]? = some (rowsRow k att, e) ∧ ExRow order k e) ∧ s5.at_ ≤ s'.at_ + i ∧ G1 = put (put (put (put G0 a (.lst [])) t (.lst [blokD ([], .fin)])) b2 (.lst (bs.map blokD))) p s5.c) ?_ ?_ ?_
      · refine ⟨List.replicate 6 ([], .fin), s', _, _, _, _, rfl, rfl, fun k b h => by omega, by omega, ?_⟩
        rw [put_comm hbp, put_comm htp]
        rfl
      · rintro i y hy ρ G1 E2 ⟨bs, s5, x7, x8, x9, x10, rfl, hbl, hbs, h5, rfl⟩ e2N e2C e2R e2B e2X
        obtain ⟨d, hd, rfl⟩ := enum_get hy
        obtain ⟨b, hb, rfl⟩ := get_map hd
        have hi := (List.getElem?_eq_some_iff.mp hb).1
        have hb6 : b < 6 := List.mem_range.mp (hP.subset (List.mem_of_getElem? hb))
        have hnd : order.Nodup := hP.nodup_iff.mpr List.nodup_range
        have atB : ∀ {u : Cl} {v : Cl}, put (put (put (put G0 a (.lst [])) t (.lst [blokD ([], .fin)])) b2 u) p v b2 = some u := fun {u v} => by rw [put_ne hbp]; exact put_same
        let r0 : Row := .set "x" "add" (.wo 1) (.wo 2)
        have hR : (List.replicate (if ((i : Int) == (att : Int)) = true then (1 : Int) else 0).toNat [r0.d]).flatten = (if i = att then [r0] else []).map Row.d := by
          by_cases h : i = att
          · subst h
            rw [if_pos rfl, if_pos (beq_self_eq_true _)]
            rfl
          · have h' : ((i : Int) == (att : Int)) = false := beq_eq_false_iff_ne.mpr (by omega)
            rw [if_neg h, h']
            rfl
        have fin : ∀ (e : Exit) (R : List D) (s6 : Pn) (ρ' : Ev) (x7' x8' : Option D), R = (rowsRow i att).map Row.d → ExRow order i e → s6.at_ ≤ s5.at_ + 1 → ρ' = [some (.ref p), some (strsD ps), some (.ref b2), some (.ref a), some (.rl (order.map natD)), some (natD w), some (natD att), x7', some (natD b), some (.tup R), some e.d] → denB [spDrawB] [] (.cons (.asg (.sub (.var 2) (.var 8)) (.tup (.cons (.var 9) (.cons (.var 10) .nil)))) .nil) E2 ρ' (put (put (put (put G0 a (.lst [])) t (.lst [blokD ([], .fin)])) b2 (.lst (bs.map blokD))) p s6.c) := by
          rintro e R s6 ρ' x7' x8' rfl hex h6 rfl
          refine ⟨sz3 2, _, b, atB, ixN_nat (by rw [List.length_map, hbl]; exact hb6), ?_⟩
          rw [put_mid2 hbp]
          refine e2N _ _ _ .refl ⟨bs.set b (rowsRow i att, e), s6, _, _, _, _, rfl, by rw [List.length_set]; exact hbl, fun k b' hk hb' => ?_, by omega, ?_⟩
          · by_cases ek : k = i
            · subst ek
              rw [hb] at hb'
              have := Option.some.inj hb'
              subst this
              exact ⟨e, by rw [List.getElem?_set_self (by omega)], hex⟩
            · have hne : b ≠ b' := fun z => by
                subst z
                exact ek ((List.getElem?_inj (List.getElem?_eq_some_iff.mp hb').1 hnd).mp (hb'.trans hb.symm))
              obtain ⟨e', h1, h2⟩ := hbs k b' (by omega) hb'
              exact ⟨e', by rw [List.getElem?_set_ne hne]; exact h1, h2⟩
          · rw [List.map_set]
            rfl
        refine ⟨trivial, rfl, sz3 5, sz3 1, by simp, ?_, ?_, by simp, ?_⟩
        · split <;> omega
        · split <;> omega
        refine ⟨sz3 1, ?_⟩
        by_cases hi5 : i < 5
        · refine iteY (decide_eq_true (by show (i : Int) < 5; omega)) ?_
          have hi6 : i + 1 < order.length := by omega
          obtain ⟨n, hn⟩ : ∃ n, order[i + 1]? = some n := ⟨_, List.getElem?_eq_getElem hi6⟩
          have hat : atI (order.map natD) ((i : Int) + 1) = some (natD n) := atI_nat (j := i + 1) (by rw [List.getElem?_map, hn]; rfl)
          refine ⟨_, hat, sz3 2, _, hat, _, hat, sz3 4, sz3 2, p, s5, 2, _, rfl, rfl, by decide, by decide, by omega, fun g s6 hg h6 => ?_⟩
          have hrows : (List.replicate (if ((i : Int) == (att : Int)) = true then (1 : Int) else 0).toNat [r0.d]).flatten = (rowsRow i att).map Row.d := by
            rw [hR]
            unfold rowsRow
            rw [if_pos hi5, List.append_nil]
          have hg : g < 2 := by omega
          match g, hg with
          | 0, _ => exact ⟨_, rfl, fin (.go n) _ s6 _ _ none hrows (.inl ⟨hi5, n, hn, .inl rfl⟩) h6 rfl⟩
          | 1, _ => exact ⟨_, rfl, fin (.iff (.wo 7) n n) _ s6 _ _ none hrows (.inl ⟨hi5, n, hn, .inr rfl⟩) h6 rfl⟩
        · refine iteN (decide_eq_false (by show ¬ (i : Int) < 5; omega)) ?_
          refine ⟨sz3 2, sz3 1, ?_, ?_⟩
          · show (List.replicate (if ((i : Int) == (att : Int)) = true then (1 : Int) else 0).toNat [r0.d]).flatten.length + 1 ≤ sizeLine
            rw [hR]
            refine Nat.le_trans (m := 10) ?_ (by decide)
            split <;> simp
          · refine fin .fin _ s5 _ _ none ?_ (.inr ⟨by omega, rfl⟩) (by omega) rfl
            have e2 : rowsRow i att = (if i = att then [r0] else []) ++ [.tell (.nm "x")] := by
              unfold rowsRow
              rw [if_neg hi5]
            rw [e2, List.map_append, ← hR]
            rfl
      · rintro ρ G1 ⟨bs, s5, x7, x8, x9, x10, rfl, hbl, hbs, h5, rfl⟩
        rw [enumD_len, List.length_map] at hbs h5
        refine ⟨trivial, b2, _, rfl, by rw [put_ne hbp]; exact put_same, ?_⟩
        rw [put_comm hbp, drop_put (by rw [put_ne hbp, put_ne hbt]; exact fba)]
        refine ⟨sz3 2, put G0 p s5.c, ?_, q _ s5 ⟨ps, ⟨ps, bs⟩, order, att, rfl, ⟨rfl, hP, hH, hbl, fun k b hk => hbs k b ((List.getElem?_eq_some_iff.mp hk).1) hk⟩, rfl⟩ (by omega)⟩
        rw [put_comm htp, put_comm hap]
        exact (Dn.new (by rw [put_ne (fun z => by subst z; rw [put_same] at fta; cases fta), put_ne htp]; rw [put_ne (fun z => by subst z; rw [put_same] at fta; cases fta)] at fta; exact fta)).trans (.new (by rw [put_ne hap]; exact fa0))
end DL

namespace DL
open PySem PySem.Spec PyProof.Rows L2
structure Good (p : Prog) : Prop where
  led : p.Led
  few : p.Few
  ok : ∀ x ∈ p.names, PyData.strOk x = true
theorem ProgOk.good {ts : List Str} {p : Prog} (h : ProgOk ts p) : Good p := ⟨h.led, h.few, fun x hx => (h.ns.ok x (h.names hx)).ok⟩
theorem InRow.at_ {ps : List Str} {pr : Prog} {o : List Nat} {att : Nat} (h : InRow ps pr o att) {bl : Blok} (hb : bl ∈ pr.blocks) : ∃ k e, k < 6 ∧ bl = (rowsRow k att, e) ∧ ExRow o k e := by
  obtain ⟨b, hb⟩ := List.getElem?_of_mem hb
  have hbl := (List.getElem?_eq_some_iff.mp hb).1
  rw [h.len] at hbl
  have : b ∈ o := h.perm.symm.subset (List.mem_range.mpr hbl)
  obtain ⟨k, hk⟩ := List.getElem?_of_mem this
  obtain ⟨e, h1, h2⟩ := h.blk k b hk
  rw [hb] at h1
  have hk6 := (List.getElem?_eq_some_iff.mp hk).1
  rw [h.perm.length_eq, List.length_range] at hk6
  exact ⟨k, e, hk6, Option.some.inj h1, h2⟩
theorem rowsRow_mem {k att : Nat} {r : Row} (h : r ∈ rowsRow k att) : r = .set "x" "add" (.wo 1) (.wo 2) ∨ r = .tell (.nm "x") := by
  unfold rowsRow at h
  rcases List.mem_append.mp h with h | h
  · split at h
    · exact .inl (by simpa using h)
    · cases h
  · split at h
    · cases h
    · exact .inr (by simpa using h)
theorem InRow.names {ps : List Str} {pr : Prog} {o : List Nat} {att : Nat} (h : InRow ps pr o att) {z : Str} (hz : z ∈ pr.names) : z ∈ ps ++ [("x" : Str)] := by
  unfold Prog.names at hz
  rcases List.mem_append.mp hz with hz | hz
  · rw [h.ps] at hz
    exact List.mem_append.mpr (.inl hz)
  · refine List.mem_append.mpr (.inr ?_)
    obtain ⟨bl, hbl, hz⟩ := mem_flat.mp hz
    obtain ⟨k, e, _, rfl, hx⟩ := h.at_ hbl
    unfold blokN at hz
    rcases List.mem_append.mp hz with hz | hz
    · obtain ⟨r, hr, hz⟩ := mem_flat.mp hz
      rcases rowsRow_mem hr with rfl | rfl
      · exact hz
      · exact hz
    · rcases hx with ⟨_, n, _, rfl | rfl⟩ | ⟨_, rfl⟩
      · cases hz
      · cases hz
      · cases hz
theorem InRow.good {ps : List Str} {pr : Prog} {o : List Nat} {att : Nat} (h : InRow ps pr o att) (hp : ps.length ≤ 4) (hok : ∀ x ∈ ps ++ [("x" : Str)], PyData.strOk x = true) : Good pr where
  led := ⟨by rw [h.len]; decide, fun bl hbl k hk => by
    obtain ⟨j, e, _, rfl, hx⟩ := h.at_ hbl
    rw [h.len]
    have lt : ∀ {n : Nat} {i : Nat}, o[i]? = some n → n < 6 := fun hn => List.mem_range.mp (h.perm.subset (List.mem_of_getElem? hn))
    rcases hx with ⟨_, n, hn, rfl | rfl⟩ | ⟨_, rfl⟩
    · have : k = n := by simpa [Exit.led] using hk
      exact this ▸ lt hn
    · have : k = n := by simpa [Exit.led] using hk
      exact this ▸ lt hn
    · cases hk⟩
  few := {
    pl := by rw [h.ps]; omega
    bl := by rw [h.len]; decide
    rl := fun bl hbl => by
      obtain ⟨j, e, _, rfl, _⟩ := h.at_ hbl
      show (rowsRow j att).length ≤ 10
      unfold rowsRow
      rw [List.length_append]
      split <;> split <;> simp
    nl := by
      have h1 := (srtO_nodup (l := pr.names) linS).length_le_of_subset fun z hz => h.names ((mem_srtO linS).mp hz)
      rw [List.length_append] at h1
      simp at h1
      omega }
  ok := fun x hx => hok x (h.names hx)
end DL

namespace DL
open PySem PySem.Spec PyProof.Rows L2
/-- _law_some: slots 0 _law_pen 1 _law_things 2 _law_bits 3 _law_more 4 _law_begin 5 _law_found 6 _law_thing; calls _law_draw; names  -/
def someAC : CB := (.cons (.asg (.name 2) (.fn 0 (.cons (.var 0) (.cons (.bin .Pow (.int 2) (.int 24)) .nil)))) (.cons (.asg (.name 3) (.bin .Mult (.fn 0 (.cons (.var 0) (.cons (.bin .Pow (.int 2) (.int 24)) .nil))) (.fn 0 (.cons (.var 0) (.cons (.int 2) .nil))))) (.cons (.asg (.name 4) (.fn 0 (.cons (.var 0) (.cons (.blt .len (.cons (.var 1) .nil)) .nil)))) (.cons (.asg (.name 5) (.lst .nil)) (.cons (.fors (.name 6) (.it (.var 1)) (.cons (.ifs (.cmp .Gt (.addv (.bin .Mod (.var 2) (.int 2)) (.bin .Mod (.var 3) (.int 2))) (.int 0)) (.cons (.expr (.mt .append (.var 5) (.cons (.var 6) .nil))) .nil) .nil) (.cons (.asg (.name 2) (.bin .FloorDiv (.var 2) (.int 2))) (.cons (.asg (.name 3) (.bin .FloorDiv (.var 3) (.int 2))) .nil)))) (.cons (.ifs (.cmp .Eq (.var 5) (.lstv .nil)) (.cons (.asg (.name 5) (.lst (.cons (.ix (.var 1) (.var 4)) .nil))) .nil) .nil) (.cons (.asg (.name 4) (.bin .Mod (.var 4) (.blt .len (.cons (.var 5) .nil)))) (.cons (.ret (.blt .tuple (.cons (.addv (.slv (.var 5) (.part (.var 4)) .no) (.slv (.var 5) .no (.part (.var 4)))) .nil))) .nil))))))))
/-- _law_froms_by: slots 0 _law_boxes 1 _law_doers 2 _law_k; calls ; names  -/
def fromsAC : CB := (.cons (.ret (.addv (.addv (.lstv (.cons (.str "num") .nil)) (.lcv [("_law_k", 2)] (.name 2) (.rng1 (.var 0)) .no (.addv (.str "box") (.blt .str (.cons (.var 2) .nil))))) (.lcv [("_law_k", 2)] (.name 2) (.rng1 (.var 1)) .no (.addv (.str "out") (.blt .str (.cons (.var 2) .nil)))))) .nil)
/-- _law_tos_by: slots 0 _law_boxes 1 _law_doers 2 _law_found 3 _law_k; calls ; names  -/
def tosAC : CB := (.cons (.setLcv 2 [("_law_k", 3)] (.name 3) (.rng1 (.var 0)) .no (.addv (.str "box") (.blt .str (.cons (.var 3) .nil)))) (.cons (.fors (.name 3) (.rng1 (.var 1)) (.cons (.asg (.name 2) (.addv (.var 2) (.lstv (.cons (.addv (.str "in") (.blt .str (.cons (.var 3) .nil))) (.cons (.addv (.str "start") (.blt .str (.cons (.var 3) .nil))) .nil))))) .nil)) (.cons (.ret (.addv (.var 2) (.lstv (.cons (.str "tell") (.cons (.str "go") (.cons (.str "end") .nil)))))) .nil)))
/-- _law_machine_by: slots 0 _law_pen 1 _law_boxes 2 _law_whole 3 _law_lag 4 _law_doers 5 _law_ways 6 _law_froms 7 _law_tos 8 _law_part 9 _law_rest 10 _law_k 11 _law_port; calls _law_draw _law_some _law_tos_by _law_froms_by _law_deeds; names  -/
def machAC : CB := (.cons (.asg (.name 3) (.fn 0 (.cons (.var 0) (.cons (.int 4) .nil)))) (.cons (.asg (.name 1) (.addv (.int 1) (.fn 0 (.cons (.var 0) (.cons (.var 1) .nil))))) (.cons (.ifs (.val (.var 2)) (.cons (.asg (.name 1) (.blt .max (.cons (.var 1) (.cons (.int 4) .nil)))) .nil) .nil) (.cons (.asg (.name 4) (.blt .tuple (.cons (.lcv [("_law_k", 10)] (.name 10) (.rng1 (.addv (.int 1) (.fn 0 (.cons (.var 0) (.cons (.int 4) .nil))))) .no (.tup (.cons (.addv (.int 1) (.fn 0 (.cons (.var 0) (.cons (.int 4) .nil)))) (.cons (.fn 1 (.cons (.var 0) (.cons (.fn 4 .nil) .nil))) .nil)))) .nil))) (.cons (.asgT (.tup 2 (.cons (.name 6) (.cons (.name 7) .nil))) (.tup (.cons (.fn 3 (.cons (.var 1) (.cons (.blt .len (.cons (.var 4) .nil)) .nil))) (.cons (.fn 2 (.cons (.var 1) (.cons (.blt .len (.cons (.var 4) .nil)) .nil))) .nil)))) (.cons (.setLc 5 [("_law_k", 10)] (.name 10) (.rng1 (.addv (.int 1) (.fn 0 (.cons (.var 0) (.cons (.int 6) .nil))))) .no (.tup (.cons (.fn 1 (.cons (.var 0) (.cons (.var 6) .nil))) (.cons (.fn 1 (.cons (.var 0) (.cons (.var 7) .nil))) .nil)))) (.cons (.ifs (.val (.var 2)) (.cons (.asg (.name 8) (.fn 1 (.cons (.var 0) (.cons (.var 7) .nil)))) (.cons (.setLcv 9 [("_law_port", 11)] (.name 11) (.it (.var 7)) (.one (.cmp .NotIn (.var 11) (.var 8))) (.var 11)) (.cons (.asg (.sub (.var 5) (.int 0)) (.tup (.cons (.blt .tuple (.cons (.var 6) .nil)) (.cons (.blt .tuple (.cons (.var 7) .nil)) .nil)))) (.cons (.ifs (.and (.cmp .NotEq (.var 9) (.lstv .nil)) (.and (.cmp .Lt (.blt .len (.cons (.var 5) .nil)) (.int 6)) (.cmp .Eq (.fn 0 (.cons (.var 0) (.cons (.int 2) .nil))) (.int 0)))) (.cons (.asg (.sub (.var 5) (.int 0)) (.tup (.cons (.blt .tuple (.cons (.var 6) .nil)) (.cons (.var 8) .nil)))) (.cons (.expr (.mt .append (.var 5) (.cons (.tup (.cons (.blt .tuple (.cons (.revv (.var 6)) .nil)) (.cons (.blt .tuple (.cons (.var 9) .nil)) .nil))) .nil))) .nil)) .nil) .nil)))) .nil) (.lk 5 (.cons (.ret (.tup (.cons (.var 3) (.cons (.var 1) (.cons (.var 4) (.cons (.blt .tuple (.cons (.var 5) .nil)) .nil)))))) .nil)))))))))
/-- _law_machine_text: slots 0 _law_machine 1 _law_lines 2 _law_delay 3 _law_skills 4 _law_froms 5 _law_tos; calls ; names  -/
def machTC : CB := (.cons (.asg (.name 1) (.lst (.cons (.addv (.str "lag ") (.blt .str (.cons (.ix (.var 0) (.int 0)) .nil))) (.cons (.addv (.str "boxes ") (.blt .str (.cons (.ix (.var 0) (.int 1)) .nil))) .nil)))) (.cons (.fors (.tup 2 (.cons (.name 2) (.cons (.name 3) .nil))) (.it (.ix (.var 0) (.int 2))) (.cons (.expr (.mt .append (.var 1) (.cons (.mt .join (.str " ") (.cons (.addv (.lstv (.cons (.str "doer") (.cons (.blt .str (.cons (.var 2) .nil)) .nil))) (.lofv (.var 3))) .nil)) .nil))) .nil)) (.cons (.fors (.tup 2 (.cons (.name 4) (.cons (.name 5) .nil))) (.it (.ix (.var 0) (.int 3))) (.cons (.expr (.mt .append (.var 1) (.cons (.mt .join (.str " ") (.cons (.addv (.addv (.addv (.lstv (.cons (.str "way") .nil)) (.lofv (.var 4))) (.lstv (.cons (.str "to") .nil))) (.lofv (.var 5))) .nil)) .nil))) .nil)) (.lk 1 (.cons (.ret (.mt .join (.str "\n") (.cons (.var 1) .nil))) .nil)))))
/-- written: slots 0 machine 1 lines 2 delay 3 skills 4 froms 5 tos; calls ; names  -/
def machWC : CB := (.cons (.asg (.name 1) (.lst (.cons (.addv (.str "lag ") (.blt .str (.cons (.ix (.var 0) (.int 0)) .nil))) (.cons (.addv (.str "boxes ") (.blt .str (.cons (.ix (.var 0) (.int 1)) .nil))) .nil)))) (.cons (.fors (.tup 2 (.cons (.name 2) (.cons (.name 3) .nil))) (.it (.ix (.var 0) (.int 2))) (.cons (.expr (.mt .append (.var 1) (.cons (.addv (.addv (.addv (.str "doer ") (.blt .str (.cons (.var 2) .nil))) (.str " ")) (.mt .join (.str " ") (.cons (.lofv (.var 3)) .nil))) .nil))) .nil)) (.cons (.fors (.tup 2 (.cons (.name 4) (.cons (.name 5) .nil))) (.it (.ix (.var 0) (.int 3))) (.cons (.expr (.mt .append (.var 1) (.cons (.addv (.addv (.addv (.str "way ") (.mt .join (.str " ") (.cons (.lofv (.var 4)) .nil))) (.str " to ")) (.mt .join (.str " ") (.cons (.lofv (.var 5)) .nil))) .nil))) .nil)) (.lk 1 (.cons (.ret (.mt .join (.str "\n") (.cons (.var 1) .nil))) .nil)))))
end DL

namespace DL
open PySem PySem.Spec PyProof.Rows L2
/-! names of ports -/
def numS (k : Nat) : Str := Str.ofString (toString (k : Int))
def boxS (k : Nat) : Str := "box" ++ numS k
def outS (k : Nat) : Str := "out" ++ numS k
def inS (k : Nat) : Str := "in" ++ numS k
def startS (k : Nat) : Str := "start" ++ numS k
def fromsL (b d : Nat) : List Str := ([("num" : Str)] ++ (List.range b).map boxS) ++ (List.range d).map outS
def insL (d : Nat) : List Str := (List.range d).flatMap fun k => [inS k, startS k]
def tosL (b d : Nat) : List Str := ((List.range b).map boxS ++ insL d) ++ [("tell" : Str), "go", "end"]
abbrev deedsL : List Str := ["add", "less", "times", "both", "odd", "same", "under"]
theorem numS_tab : (List.range 200).all (fun k => decide ((numS k).length ≤ 3)) = true := by decide +kernel
theorem numS_len {k : Nat} (h : k < 200) : (numS k).length ≤ 3 := of_decide_eq_true (List.all_eq_true.mp numS_tab k (List.mem_range.mpr h))
theorem log_small {k : Nat} (h : k < 200) : (k : Int).natAbs.log2 < 1920 := by
  rw [Int.natAbs_natCast]
  exact Nat.lt_of_le_of_lt (Nat.log2_le_self k) (by omega)
theorem cat_sz {a : Str} {k : Nat} (h : k < 200) (ha : a.length ≤ 100) : a.length + (Str.ofString (toString (k : Int))).length ≤ sizeLine := by
  have := numS_len h
  unfold numS at this
  exact Nat.le_trans (m := 200) (by omega) (by decide)
/-- 'x' + str(k) for k in range(n) -/
theorem lc_nums {g : DG} {te : DE} {ρ0 : Ev} {fin : List D → Sto → Prop} {G : Sto} {n : Nat} {j : Int} (pre : Str) (hj : j = n) (h : n ≤ 200)
    (step : ∀ i (R : DQ), i < 200 → R (.str (pre ++ numS i)) G → g (.int (i : Nat)) ρ0 G (fun ρ1 G1 => te ρ1 G1 R (fun _ _ => False)) (fun _ _ _ => False)) (q : fin (((List.range n).map fun i => pre ++ numS i).map D.str) G) :
    lcS g dYes te ρ0 (fun _ => True) fin (rangeD 0 j.toNat) [] G := by
  subst hj
  refine lc_mapA (fun i : Nat => D.int (0 + i)) (fun i : Nat => .str (pre ++ numS i)) (xs := List.range n) (by rw [show ((n : Int)).toNat = n by omega]; rfl) (by rw [List.length_range]; exact Nat.lt_of_le_of_lt (show n ≤ 200 from h) (by decide)) trivial (fun i x hx R r => ?_) ?_
  · have hi := List.mem_range.mp (List.mem_of_getElem? hx)
    have e : (0 : Int) + (x : Nat) = (x : Nat) := by omega
    show g (.int (0 + (x : Nat))) _ _ _ _
    rw [e]
    exact step x R (by omega) r
  · rw [List.map_map] at q
    exact q
def sp_l_froms_by : DSp := fun ds G Q _ => ∃ b d : Nat, ds = [.int b, .int d] ∧ b ≤ 100 ∧ d ≤ 100 ∧ Q (strsL (fromsL b d)) G
theorem len_l_froms_by : LenS sp_l_froms_by 2 := by rintro ds G Q xq ⟨b, d, rfl, _⟩; rfl
theorem body_l_froms_by : Bod [] [] fromsAC 3 sp_l_froms_by := by
  rintro ds G Q xq ⟨b, d, rfl, hb, hd, q⟩
  refine ⟨sz3 1, by omega, by omega, ?_⟩
  show lcS _ _ _ _ _ _ _ _ _
  refine lc_nums "box" rfl (by omega) (fun i R hi r => ?_) ?_
  · exact ⟨log_small hi, cat_sz hi (by decide), r⟩
  refine ⟨Nat.le_trans (m := 300) (by simp; omega) (by decide), by omega, by omega, ?_⟩
  show lcS _ _ _ _ _ _ _ _ _
  refine lc_nums "out" rfl (by omega) (fun i R hi r => ?_) ?_
  · exact ⟨log_small hi, cat_sz hi (by decide), r⟩
  refine ⟨Nat.le_trans (m := 300) (by simp; omega) (by decide), ?_⟩
  refine Eq.mp (congrArg (fun z => Q (D.rl z) G) ?_) q
  unfold fromsL
  simp only [List.map_append, List.map_cons, List.map_nil]
  rfl
def sp_l_tos_by : DSp := fun ds G Q _ => ∃ b d : Nat, ds = [.int b, .int d] ∧ b ≤ 100 ∧ d ≤ 100 ∧ Q (strsL (tosL b d)) G
theorem len_l_tos_by : LenS sp_l_tos_by 2 := by rintro ds G Q xq ⟨b, d, rfl, _⟩; rfl
theorem insL_succ (i : Nat) : insL (i + 1) = insL i ++ [inS i, startS i] := by
  unfold insL
  rw [List.range_succ, List.flatMap_append]
  simp
theorem insL_len (i : Nat) : (insL i).length = 2 * i := by
  induction i with
  | zero => rfl
  | succ i ih => rw [insL_succ, List.length_append, ih]; simp; omega
theorem body_l_tos_by : Bod [] [] tosAC 4 sp_l_tos_by := by
  rintro ds G Q xq ⟨b, d, rfl, hb, hd, q⟩
  refine ⟨by omega, by omega, ?_⟩
  show lcS _ _ _ _ _ _ _ _ _
  refine lc_nums "box" rfl (by omega) (fun i R hi r => ?_) ?_
  · exact ⟨log_small hi, cat_sz hi (by decide), r⟩
  refine ⟨by omega, by omega, ?_⟩
  show forS _ _ _ _ _ _ _
  refine for_op (I := fun k ρ G1 => G1 = G ∧ ∃ x3, ρ = [some (.int b), some (.int d), some (strsL ((List.range b).map boxS ++ insL k)), x3]) ⟨rfl, none, ?_⟩ ?_ ?_
  · unfold strsL insL
    simp
    exact fun _ _ => rfl
  · rintro i x hx ρ G1 E ⟨rfl, x3, rfl⟩ eN eC eR eB eX
    obtain ⟨hi, rfl⟩ := get_range hx
    rw [Int.zero_add]
    have hi2 : i < 200 := by omega
    refine ⟨trivial, log_small hi2, cat_sz hi2 (by decide), log_small hi2, cat_sz hi2 (by decide), sz3 2, Nat.le_trans (m := 1000) (by simp [insL_len]; omega) (by decide), ?_⟩
    refine eN _ _ _ .refl ⟨rfl, some (.int i), congrArg (fun z => [some (D.int b), some (D.int d), some (D.rl z), some (D.int i)]) ?_⟩
    rw [insL_succ]
    simp only [List.map_append, List.map_cons, List.map_nil, List.append_assoc]
    rfl
  · rintro ρ G1 ⟨rfl, x3, rfl⟩
    rw [rangeD_len, show ((d : Int)).toNat = d by omega]
    refine ⟨trivial, sz3 3, Nat.le_trans (m := 1000) (by simp [insL_len]; omega) (by decide), ?_⟩
    refine Eq.mp (congrArg (fun z => Q (D.rl z) G1) ?_) q
    unfold tosL
    simp only [List.map_append, List.map_cons, List.map_nil]
/-! some of a list -/
def SomeOf (ts xs : List Str) : Prop := xs ≠ [] ∧ ∃ ys, ys.Sublist ts ∧ xs.Perm ys
theorem SomeOf.mem {ts xs : List Str} (h : SomeOf ts xs) : ∀ x ∈ xs, x ∈ ts := fun x hx => by
  obtain ⟨_, ys, h1, h2⟩ := h
  exact h1.subset (h2.mem_iff.mp hx)
theorem SomeOf.len {ts xs : List Str} (h : SomeOf ts xs) : xs.length ≤ ts.length := by
  obtain ⟨_, ys, h1, h2⟩ := h
  rw [h2.length_eq]
  exact h1.length_le
def sp_l_some : DSp := fun ds G Q _ => ∃ (p : Addr) (s : Pn) (G0 : Sto) (ts : List Str), ds = [.ref p, strsL ts] ∧ G = put G0 p s.c ∧ ts ≠ [] ∧ ts.length ≤ 100 ∧ ∀ (xs : List Str) (s' : Pn), SomeOf ts xs → Q (strsD xs) (put G0 p s'.c)
theorem len_l_some : LenS sp_l_some 2 := by rintro ds G Q xq ⟨p, s, G0, ts, rfl, _⟩; rfl
theorem rot_perm {α : Type} (xs : List α) (j : Nat) : (xs.drop j ++ xs.take j).Perm xs := by
  have := (List.perm_append_comm (l₁ := xs.drop j) (l₂ := xs.take j))
  rwa [List.take_append_drop] at this
theorem sub_snoc {α : Type} {ys ts : List α} {i : Nat} {x : α} (h : ys.Sublist (ts.take i)) (e : ts[i]? = some x) : (ys ++ [x]).Sublist (ts.take (i + 1)) := by
  rw [← take_snoc e]
  exact h.append (List.Sublist.refl _)
theorem sub_step {α : Type} {ys ts : List α} {i : Nat} (h : ys.Sublist (ts.take i)) : ys.Sublist (ts.take (i + 1)) := h.trans (List.take_sublist_take_left (Nat.le_succ i))
theorem emod_nat {n : Nat} {r : Nat} (h : 0 < n) : (r : Int) % (n : Int) = ((r % n : Nat) : Int) := by omega
theorem body_l_some : BodW [spDraw] [] someAC 7 sp_l_some := by
  rintro ds G Q xq ⟨p, s, G0, ts, rfl, rfl, hts, hlen, q⟩
  refine ⟨⟨by decide, by decide, by decide⟩, p, s, 2 ^ 24, G0, rfl, rfl, by decide, by decide, fun r1 s1 h1 => ?_⟩
  refine ⟨⟨by decide, by decide, by decide⟩, p, s1, 2 ^ 24, G0, rfl, rfl, by decide, by decide, fun r2 s2 h2 => ?_⟩
  refine ⟨p, s2, 2, G0, rfl, rfl, by decide, by decide, fun r3 s3 h3 => ?_⟩
  have hl0 : 1 ≤ ts.length := List.length_pos_iff.mpr hts
  refine ⟨mulL (by omega) (by omega), p, s3, _, G0, rfl, rfl, by rw [List.length_map]; omega, by rw [List.length_map]; omega, fun r4 s4 h4 => ?_⟩
  rw [List.length_map] at h4
  refine ⟨sz3 0, fun f ff => ?_⟩
  have hfp : f ≠ p := fun z => by subst z; rw [put_same] at ff; cases ff
  have ff0 : G0 f = none := by rw [put_ne hfp] at ff; exact ff
  -- the end, from the list that was found
  have fin : ∀ (ys : List Str) (G5 : Sto) (a : Addr) (x2 x3 x6 : Option D), ys ≠ [] → ys.Sublist ts → G5 a = some (.lst (ys.map D.str)) → Dn G5 (put G0 p s4.c) →
      denB [spDraw] [] (someAC.drop 6) (Fin0 (WQ Q) (WX xq)) [some (.ref p), some (strsL ts), x2, x3, some (.int r4), some (.ref a), x6] G5 := by
    intro ys G5 a x2 x3 x6 hy hsub e5 d5
    refine ⟨_, e5, ?_⟩
    have hyl : 0 < ys.length := List.length_pos_iff.mpr hy
    have hle := hsub.length_le
    refine ⟨by rw [List.length_map]; omega, ?_⟩
    rw [List.length_map, emod_nat hyl]
    have hjl : r4 % ys.length ≤ ys.length := Nat.le_of_lt (Nat.mod_lt _ hyl)
    have ec : cutD (ys.map D.str) (some ((r4 % ys.length : Nat) : Int)) none ++ cutD (ys.map D.str) none (some ((r4 % ys.length : Nat) : Int)) = (ys.drop (r4 % ys.length) ++ ys.take (r4 % ys.length)).map D.str := by
      rw [cut_lo _ (by rw [List.length_map]; exact hjl), cut_hi _ (by rw [List.length_map]; exact hjl), ← List.map_drop, ← List.map_take, ← List.map_append]
    refine ⟨_, e5, _, e5, ?_, ?_⟩
    · rw [← List.length_append, ec, List.length_map, List.length_append, List.length_drop, List.length_take]
      exact Nat.le_trans (m := 1000) (by omega) (by decide)
    · refine ⟨_, d5, ?_⟩
      refine Eq.mp (congrArg (fun z => Q (.tup z) _) ec.symm) (q _ s4 ⟨?_, ys, hsub, rot_perm ys _⟩)
      intro z
      have := (rot_perm ys (r4 % ys.length)).length_eq
      rw [z, List.length_nil] at this
      omega
  show forS _ _ _ _ _ _ _
  refine for_op (I := fun k ρ G5 => ∃ (ys : List Str) (b m : Int) (x6 : Option D), ys.Sublist (ts.take k) ∧ G5 = put (put G0 p s4.c) f (.lst (ys.map D.str)) ∧ ρ = [some (.ref p), some (strsL ts), some (.int b), some (.int m), some (.int r4), some (.ref f), x6]) ⟨[], _, _, _, by simp, rfl, rfl⟩ ?_ ?_
  · rintro i x hx ρ G5 E ⟨ys, b, m, x6, hs, rfl, rfl⟩ eN eC eR eB eX
    obtain ⟨z, e, rfl⟩ := get_map hx
    refine ⟨trivial, show (0 : Int) < 2 by decide, show (0 : Int) < 2 by decide, ?_⟩
    have hyl : ys.length ≤ ts.length := Nat.le_trans hs.length_le (List.length_take_le' _ _)
    refine ite2 (fun h => ?_) (fun h => ?_)
    · refine ⟨⟨rfl, _, put_same⟩, _, put_same, by rw [List.length_map]; exact Nat.lt_of_le_of_lt (show _ ≤ 100 by omega) (by decide), .inl ⟨by decide, by decide⟩, .inl ⟨by decide, by decide⟩, ?_⟩
      refine eN _ _ _ .refl ⟨ys ++ [z], _, _, _, sub_snoc hs e, ?_, rfl⟩
      rw [put_put, List.map_append]
      rfl
    · refine ⟨.inl ⟨by decide, by decide⟩, .inl ⟨by decide, by decide⟩, ?_⟩
      exact eN _ _ _ .refl ⟨ys, _, _, _, sub_step hs, rfl, rfl⟩
  · rintro ρ G5 ⟨ys, b, m, x6, hs, rfl, rfl⟩
    rw [List.length_map, List.take_length] at hs
    refine ⟨trivial, sz3 0, _, put_same, ?_⟩
    refine ite2 (fun h => ?_) (fun h => ?_)
    · have hz : r4 < ts.length := by omega
      have h3 : atI (ts.map D.str) (r4 : Int) = some (.str ts[r4]) := atI_nat (by rw [List.getElem?_map, List.getElem?_eq_getElem hz]; rfl)
      refine ⟨_, h3, sz3 1, fun a2 f2 => ?_⟩
      exact fin [ts[r4]] _ a2 _ _ _ (by simp) (by simp) put_same ((Dn.new f2).trans (Dn.new ff))
    · refine fin ys _ f _ _ _ (fun z => ?_) hs put_same (Dn.new ff)
      subst z
      exact h rfl
end DL

namespace DL
open PySem PySem.Spec PyProof.Rows L2
/-! repr of plain data: what it comes to -/
mutual
def wD : D → Nat
  | .non => 4
  | .bl _ => 5
  | .int i => (Str.ofString (toString i)).length
  | .str x => 10 * x.length + 2
  | .tup ds => wDs ds + 4
  | .rl ds => wDs ds + 4
  | _ => 0
def wDs : List D → Nat
  | [] => 0
  | d :: ds => wD d + 2 + wDs ds
end
mutual
def shD : D → Bool
  | .int i => decide (i.natAbs.log2 < 1920)
  | .tup ds => shDs ds
  | .rl ds => shDs ds
  | _ => true
def shDs : List D → Bool
  | [] => true
  | d :: ds => shD d && shDs ds
end
theorem tupleText_le (ts : List Str) : (tupleText ts).length ≤ piled ts + 4 := by
  unfold tupleText
  rw [strLen_append, strLen_append]
  have e1 : ((("(" : String) : Str)).length = 1 := rfl
  have e3 : (((if ts.length == 1 then ",)" else ")" : String) : Str)).length ≤ 2 := by split <;> decide
  rw [e1]
  by_cases h : ts = []
  · subst h
    have : (Str.join ", " ([] : List Str)).length = 0 := rfl
    omega
  · have := join_length_add ts h
    omega
theorem listText_le : ∀ ts : List Str, (listText ts).length ≤ piled ts + 4
  | [] => by
    have : (listText []).length = 2 := rfl
    omega
  | t :: r => by
    have h := textFrom_length_pos r 1 (("[" : Str) ++ (if (0 : Nat) > 0 then ", " else "" : String) ++ t) (Nat.succ_pos 0)
    have e : ((("[" : Str) ++ (if (0 : Nat) > 0 then ", " else "" : String) ++ t)).length = 1 + t.length := by
      rw [strLen_append, strLen_append]; rfl
    have e2 : (listText (t :: r)).length = (textFrom 1 (("[" : Str) ++ (if (0 : Nat) > 0 then ", " else "" : String) ++ t) r).length + 1 := by
      show (textFrom 1 (("[" : Str) ++ (if (0 : Nat) > 0 then ", " else "" : String) ++ t) r ++ "]").length = _
      rw [strLen_append]; rfl
    rw [e2, h, e, piled_cons]
    omega
theorem chars_lt {x : Str} (h : PyData.strOk x = true) : ∀ c ∈ x.cps.toList, c < 16 ^ 8 := fun c hc => by
  unfold PyData.strOk at h
  rw [Array.all_eq_true_iff_forall_mem] at h
  have := of_decide_eq_true (h c (by simpa using hc))
  omega
mutual
theorem shown_le : ∀ {d : D} {n : Nat}, okD n d = true → shD d = true → (pyD d).showable = true ∧ (pyD d).shown.length ≤ wD d
  | .non, n, _, _ => ⟨rfl, by decide⟩
  | .bl b, n, _, _ => ⟨rfl, by cases b <;> decide⟩
  | .int i, n, _, h => ⟨by unfold shD at h; unfold pyD PyData.showable; exact h, by unfold pyD PyData.shown wD; exact Nat.le_refl _⟩
  | .str x, n, h, _ => ⟨rfl, by
      unfold okD at h
      unfold pyD PyData.shown wD
      exact StrLaws.reprText_len x (chars_lt h)⟩
  | .tup ds, 0, h, _ => by unfold okD at h; cases h
  | .tup ds, n + 1, h, h2 => by
    unfold okD at h
    unfold shD at h2
    obtain ⟨a, b⟩ := showns_le h h2
    unfold pyD PyData.showable PyData.shown wD
    have := tupleText_le (PyData.shownAll (pyDs ds))
    exact ⟨a, by omega⟩
  | .rl ds, 0, h, _ => by unfold okD at h; cases h
  | .rl ds, n + 1, h, h2 => by
    unfold okD at h
    unfold shD at h2
    obtain ⟨a, b⟩ := showns_le h h2
    unfold pyD PyData.showable PyData.shown wD
    have := listText_le (PyData.shownAll (pyDs ds))
    exact ⟨a, by omega⟩
  | .ref _, n, h, _ => by unfold okD at h; cases h
  | .ty _, n, h, _ => by unfold okD at h; cases h
  | .sc _, n, h, _ => by unfold okD at h; cases h
  | .rd _ _, n, h, _ => by unfold okD at h; cases h
theorem showns_le : ∀ {ds : List D} {n : Nat}, okDs n ds = true → shDs ds = true → PyData.showableAll (pyDs ds) = true ∧ piled (PyData.shownAll (pyDs ds)) ≤ wDs ds
  | [], n, _, _ => ⟨rfl, by decide⟩
  | d :: ds, n, h, h2 => by
    unfold okDs at h
    unfold shDs at h2
    rw [Bool.and_eq_true] at h h2
    obtain ⟨a1, a2⟩ := shown_le h.1 h2.1
    obtain ⟨b1, b2⟩ := showns_le h.2 h2.2
    unfold pyDs PyData.showableAll PyData.shownAll wDs
    rw [a1, b1, piled_cons]
    exact ⟨rfl, by omega⟩
end
/-- what repr asks of a thing; its text is told by an unknown q -/
def Shows (d : D) : Prop := ∃ q : PyData, (∀ G, Dd G d q) ∧ q.showable = true ∧ q.hasDict = false ∧ q.depth ≤ 60 ∧ q.shown.length ≤ sizeLine
theorem shows_tup {ds : List D} {n : Nat} (h : okDs n ds = true) (h2 : shDs ds = true) (hn : n ≤ 50) (hw : wDs ds + 4 ≤ 16777216) : Shows (.tup ds) := by
  have ho : okD (n + 1) (.tup ds) = true := by unfold okD; exact h
  obtain ⟨a, b, c⟩ := okD_dd (G := fun _ => none) ho
  obtain ⟨u, v⟩ := shown_le ho (by unfold shD; exact h2)
  refine ⟨_, fun G => (okD_dd ho).1, u, PyData.hasDict_of_canLay _ b, by omega, ?_⟩
  unfold wD at v
  exact Nat.le_trans v (Nat.le_trans hw (by decide))
theorem wDs_le {ds : List D} {k : Nat} (h : ∀ d ∈ ds, wD d ≤ k) : wDs ds ≤ (k + 2) * ds.length := by
  induction ds with
  | nil => exact Nat.le_refl _
  | cons d ds ih =>
    unfold wDs
    have h1 := h d (by simp)
    have h2 := ih fun x hx => h x (by simp [hx])
    rw [List.length_cons, Nat.mul_add, Nat.mul_one]
    omega
theorem shDs_all {ds : List D} (h : ∀ d ∈ ds, shD d = true) : shDs ds = true := by
  induction ds with
  | nil => rfl
  | cons d ds ih =>
    unfold shDs
    rw [h d (by simp), ih fun x hx => h x (by simp [hx])]
    rfl
theorem wDs_strs {ts : List Str} {k : Nat} (h : ∀ t ∈ ts, t.length ≤ k) : wDs (ts.map D.str) ≤ (10 * k + 4) * ts.length := by
  have := wDs_le (ds := ts.map D.str) (k := 10 * k + 2) fun d hd => by
    obtain ⟨t, ht, rfl⟩ := List.mem_map.mp hd
    unfold wD
    have := h t ht
    omega
  rwa [List.length_map] at this
theorem shDs_strs (ts : List Str) : shDs (ts.map D.str) = true := shDs_all fun d hd => by
  obtain ⟨t, ht, rfl⟩ := List.mem_map.mp hd
  rfl
end DL

namespace DL
open PySem PySem.Spec PyProof.Rows L2
/-! machines -/
structure Mach where
  lag : Nat
  boxes : Nat
  doers : List (Nat × List Str)
  ways : List (List Str × List Str)
def doerD (d : Nat × List Str) : D := .tup [.int d.1, strsD d.2]
def wayD (w : List Str × List Str) : D := .tup [strsD w.1, strsD w.2]
def Mach.d (m : Mach) : D := .tup [.int m.lag, .int m.boxes, .tup (m.doers.map doerD), .tup (m.ways.map wayD)]
def DoerOk (d : Nat × List Str) : Prop := 1 ≤ d.1 ∧ d.1 ≤ 4 ∧ SomeOf deedsL d.2
def WayOk (b n : Nat) (w : List Str × List Str) : Prop := SomeOf (fromsL b n) w.1 ∧ SomeOf (tosL b n) w.2
structure Mach.Ok (m : Mach) : Prop where
  lag : m.lag ≤ 3
  b1 : 1 ≤ m.boxes
  b2 : m.boxes ≤ 12
  d1 : 1 ≤ m.doers.length
  d2 : m.doers.length ≤ 4
  dk : ∀ d ∈ m.doers, DoerOk d
  w1 : 1 ≤ m.ways.length
  w2 : m.ways.length ≤ 6
  wk : ∀ w ∈ m.ways, WayOk m.boxes m.doers.length w
/-- all ports are joined -/
def Mach.Joins (m : Mach) : Prop := ∀ f ∈ fromsL m.boxes m.doers.length, ∀ t ∈ tosL m.boxes m.doers.length, ∃ w ∈ m.ways, f ∈ w.1 ∧ t ∈ w.2
theorem strOk_of (s : String) : PyData.strOk (Str.ofString s) = true := by
  unfold PyData.strOk
  rw [Array.all_eq_true]
  intro i hi
  have e : (Str.ofString s).cps.toList = s.toList.map Char.toNat := cpsOfBytes_string s
  have : (Str.ofString s).cps[i] ∈ (Str.ofString s).cps.toList := by simp
  rw [e, List.mem_map] at this
  obtain ⟨c, _, hc⟩ := this
  rw [← hc]
  have h := c.valid
  simp only [UInt32.isValidChar, Nat.isValidChar] at h
  have h2 : c.toNat = c.val.toNat := rfl
  apply decide_eq_true
  omega
theorem strOk_cat {a b : Str} (ha : PyData.strOk a = true) (hb : PyData.strOk b = true) : PyData.strOk (a ++ b) = true := by
  unfold PyData.strOk at *
  rw [Array.all_eq_true_iff_forall_mem] at *
  intro c hc
  have e : (a ++ b).cps.toList = a.cps.toList ++ b.cps.toList := TL.tl_append a b
  have hc2 : c ∈ (a ++ b).cps.toList := by simpa using hc
  rw [e, List.mem_append] at hc2
  rcases hc2 with h | h
  · exact ha c (by simpa using h)
  · exact hb c (by simpa using h)
def StrsOk (ts : List Str) : Prop := ∀ t ∈ ts, PyData.strOk t = true ∧ t.length ≤ 20
theorem port_ok (a : String) (k : Nat) (h : k < 200) (ha : (Str.ofString a).length ≤ 10) : PyData.strOk (Str.ofString a ++ numS k) = true ∧ (Str.ofString a ++ numS k).length ≤ 20 := by
  refine ⟨strOk_cat (strOk_of a) (strOk_of _), ?_⟩
  have := numS_len h
  rw [strLen_append]
  omega
theorem froms_ok {b d : Nat} (hb : b ≤ 100) (hd : d ≤ 100) : StrsOk (fromsL b d) := by
  intro t ht
  unfold fromsL at ht
  rcases List.mem_append.mp ht with ht | ht
  · rcases List.mem_append.mp ht with ht | ht
    · rw [List.mem_singleton] at ht
      rw [ht]
      exact ⟨strOk_of "num", by decide⟩
    · obtain ⟨k, hk, rfl⟩ := List.mem_map.mp ht
      exact port_ok _ k (by have := List.mem_range.mp hk; omega) (by decide)
  · obtain ⟨k, hk, rfl⟩ := List.mem_map.mp ht
    exact port_ok _ k (by have := List.mem_range.mp hk; omega) (by decide)
theorem tos_ok {b d : Nat} (hb : b ≤ 100) (hd : d ≤ 100) : StrsOk (tosL b d) := by
  intro t ht
  unfold tosL at ht
  rcases List.mem_append.mp ht with ht | ht
  · rcases List.mem_append.mp ht with ht | ht
    · obtain ⟨k, hk, rfl⟩ := List.mem_map.mp ht
      exact port_ok _ k (by have := List.mem_range.mp hk; omega) (by decide)
    · unfold insL at ht
      obtain ⟨k, hk, ht⟩ := List.mem_flatMap.mp ht
      have hk := List.mem_range.mp hk
      simp only [List.mem_cons, List.not_mem_nil, or_false] at ht
      rcases ht with rfl | rfl
      · exact port_ok _ k (by omega) (by decide)
      · exact port_ok _ k (by omega) (by decide)
  · simp only [List.mem_cons, List.not_mem_nil, or_false] at ht
    rcases ht with rfl | rfl | rfl
    · exact ⟨strOk_of "tell", by decide⟩
    · exact ⟨strOk_of "go", by decide⟩
    · exact ⟨strOk_of "end", by decide⟩
theorem deeds_ok : StrsOk deedsL := by
  intro t ht
  simp only [deedsL, List.mem_cons, List.not_mem_nil, or_false] at ht
  rcases ht with rfl | rfl | rfl | rfl | rfl | rfl | rfl <;> exact ⟨strOk_of _, by decide⟩
theorem froms_len (b d : Nat) : (fromsL b d).length = 1 + b + d := by
  unfold fromsL
  simp
  omega
theorem tos_len (b d : Nat) : (tosL b d).length = b + 2 * d + 3 := by
  unfold tosL
  simp [insL_len]
  omega
theorem SomeOf.all {ts : List Str} (h : ts ≠ []) : SomeOf ts ts := ⟨h, ts, List.Sublist.refl _, List.Perm.refl _⟩
theorem SomeOf.rev {ts : List Str} (h : ts ≠ []) : SomeOf ts ts.reverse := ⟨by simpa using h, ts, List.Sublist.refl _, List.reverse_perm ts⟩
theorem ne_of_len {α : Type} {xs : List α} (h : 1 ≤ xs.length) : xs ≠ [] := fun z => by
  subst z
  simp at h
def sp_l_machine_by : DSp := fun ds G Q _ => ∃ (p : Addr) (s : Pn) (G0 : Sto) (n : Nat) (wh : Bool), ds = [.ref p, .int n, .bl wh] ∧ G = put G0 p s.c ∧ 1 ≤ n ∧ n ≤ 12 ∧ ∀ (m : Mach) (s' : Pn), m.Ok → (wh = true → m.Joins) → (wh = false → m.boxes ≤ n) → Q m.d (put G0 p s'.c)
theorem len_l_machine_by : LenS sp_l_machine_by 3 := by rintro ds G Q xq ⟨p, s, G0, n, wh, rfl, _⟩; rfl
abbrev FM : List DSp := [spDraw, sp_l_some, sp_l_tos_by, sp_l_froms_by, sp_l_deeds]
set_option maxHeartbeats 0 in
theorem body_l_machine_by : Bod FM [] machAC 12 sp_l_machine_by := by
  rintro ds G Q xq ⟨p, s, G0, n, wh, rfl, rfl, hn1, hn2, q⟩
  refine ⟨p, s, 4, G0, rfl, rfl, by decide, by decide, fun lag s1 hl => ?_⟩
  refine ⟨p, s1, n, G0, rfl, rfl, by omega, by omega, fun r2 s2 h2 => ?_⟩
  -- from the number of boxes on
  have tail : ∀ b : Nat, 1 ≤ b → b ≤ 12 → (wh = false → b ≤ n) → denB FM [] (machAC.drop 3) (Fin0 Q xq) [some (.ref p), some (.int b), some (.bl wh), some (.int lag), none, none, none, none, none, none, none, none] (put G0 p s2.c) := by
    intro b hb1 hb2 hbn
    refine ⟨p, s2, 4, G0, rfl, rfl, by decide, by decide, fun r3 s3 h3 => ?_⟩
    refine ⟨by omega, by omega, ?_⟩
    show lcS _ _ _ _ _ _ _ _ _
    refine lc_ix (I := fun k acc G1 => ∃ (ds : List (Nat × List Str)) (s4 : Pn), acc = ds.map doerD ∧ ds.length = k ∧ (∀ d ∈ ds, DoerOk d) ∧ G1 = put G0 p s4.c) 0 ⟨[], s3, rfl, rfl, by simp, rfl⟩ ?_ ?_
    · rintro i x hx acc G4 N ⟨ds, s4, rfl, hl4, hd, rfl⟩ hN
      obtain ⟨hi, rfl⟩ := get_range hx
      refine ⟨trivial, p, s4, 4, G0, rfl, rfl, by decide, by decide, fun r5 s5 h5 => ?_⟩
      refine ⟨rfl, p, s5, G0, deedsL, rfl, rfl, by decide, by decide, fun xs s6 hxs => ?_⟩
      refine ⟨sz3 2, by rw [List.length_map]; exact Nat.lt_of_le_of_lt (show _ ≤ 10 by omega) (by decide), hN _ _ ⟨ds ++ [(1 + r5, xs)], s6, ?_, by simp [hl4], ?_, rfl⟩⟩
      · rw [List.map_append]
        show _ = _ ++ [D.tup [.int ((1 + r5 : Nat) : Int), strsD xs]]
        rw [show ((1 + r5 : Nat) : Int) = 1 + (r5 : Int) by omega]
      · intro d hd'
        rcases List.mem_append.mp hd' with hd' | hd'
        · exact hd d hd'
        · rw [List.mem_singleton] at hd'
          subst hd'
          exact ⟨by show 1 ≤ 1 + r5; omega, by show 1 + r5 ≤ 4; omega, hxs⟩
    · rintro acc G4 ⟨ds, s4, rfl, hl4, hd, rfl⟩
      rw [rangeD_len, Nat.zero_add] at hl4
      have hdl : ds.length ≤ 4 := by omega
      have hdl1 : 1 ≤ ds.length := by omega
      refine ⟨trivial, b, ds.length, by rw [List.length_map], by omega, by omega, ?_⟩
      refine ⟨b, ds.length, by rw [List.length_map], by omega, by omega, sz3 2, rfl, ?_⟩
      have hfl : fromsL b ds.length ≠ [] := ne_of_len (by rw [froms_len]; omega)
      have htl : tosL b ds.length ≠ [] := ne_of_len (by rw [tos_len]; omega)
      refine ⟨p, s4, 6, G0, rfl, rfl, by decide, by decide, fun r8 s8 h8 => ?_⟩
      refine ⟨by omega, by omega, ?_⟩
      show lcS _ _ _ _ _ _ _ _ _
      refine lc_ix (I := fun k acc G1 => ∃ (ws : List (List Str × List Str)) (s9 : Pn), acc = ws.map wayD ∧ ws.length = k ∧ (∀ w ∈ ws, WayOk b ds.length w) ∧ G1 = put G0 p s9.c) 0 ⟨[], s8, rfl, rfl, by simp, rfl⟩ ?_ ?_
      · rintro i x hx acc G9 N ⟨ws, s9, rfl, hlw, hw, rfl⟩ hN
        obtain ⟨hi, rfl⟩ := get_range hx
        refine ⟨trivial, p, s9, G0, _, rfl, rfl, hfl, by rw [froms_len]; omega, fun xs s10 hxs => ?_⟩
        refine ⟨p, s10, G0, _, rfl, rfl, htl, by rw [tos_len]; omega, fun ys s11 hys => ?_⟩
        refine ⟨sz3 2, by rw [List.length_map]; exact Nat.lt_of_le_of_lt (show _ ≤ 10 by omega) (by decide), hN _ _ ⟨ws ++ [(xs, ys)], s11, ?_, by simp [hlw], ?_, rfl⟩⟩
        · rw [List.map_append]
          rfl
        · intro d hd'
          rcases List.mem_append.mp hd' with hd' | hd'
          · exact hw d hd'
          · rw [List.mem_singleton] at hd'
            subst hd'
            exact ⟨hxs, hys⟩
      · rintro acc G9 ⟨ws, s9, rfl, hlw, hw, rfl⟩
        rw [rangeD_len, Nat.zero_add] at hlw
        refine ⟨trivial, fun a fa => ?_⟩
        have hap : a ≠ p := fun z => by subst z; rw [put_same] at fa; cases fa
        have fa0 : G0 a = none := by rw [put_ne hap] at fa; exact fa
        have atA : ∀ {u v : Cl}, put (put G0 a u) p v a = some u := fun {u v} => by rw [put_ne hap]; exact put_same
        rw [put_comm (Ne.symm hap)]
        -- the end
        have fin : ∀ (ws : List (List Str × List Str)) (s9 : Pn) x8 x9, 1 ≤ ws.length → ws.length ≤ 6 → (∀ w ∈ ws, WayOk b ds.length w) → (wh = true → ∀ f ∈ fromsL b ds.length, ∀ t ∈ tosL b ds.length, ∃ w ∈ ws, f ∈ w.1 ∧ t ∈ w.2) →
            denB FM [] (machAC.drop 7) (Fin0 Q xq) [some (.ref p), some (.int b), some (.bl wh), some (.int lag), some (.tup (ds.map doerD)), some (.ref a), some (strsL (fromsL b ds.length)), some (strsL (tosL b ds.length)), x8, x9, none, none] (put (put G0 a (.lst (ws.map wayD))) p s9.c) := by
          intro ws s9 x8 x9 w1 w2 wk wj
          refine ⟨a, _, rfl, atA, ?_⟩
          rw [put_comm hap, drop_put (by rw [put_ne hap]; exact fa0)]
          refine ⟨sz3 4, ?_⟩
          exact q ⟨lag, b, ds, ws⟩ s9 ⟨by show lag ≤ 3; omega, hb1, hb2, hdl1, hdl, hd, w1, w2, wk⟩ wj hbn
        cases wh with
        | false => exact fin ws s9 none none (by omega) (by omega) hw (fun z => by cases z)
        | true =>
          refine ⟨p, s9, _, _, rfl, rfl, htl, by rw [tos_len]; omega, fun part s11 hpart => ?_⟩
          show lcS _ _ _ _ _ _ _ _ _
          refine lc_filtA D.str (fun t => !decide (t ∈ part)) D.str (xs := tosL b ds.length) rfl (by rw [tos_len]; exact Nat.lt_of_le_of_lt (show _ ≤ 100 by omega) (by decide)) trivial (fun i t ht K N ha hb => ?_) ?_
          · refine ⟨rfl, strs_flat _, ?_⟩
            rw [memF_str]
            cases e : !decide (t ∈ part) with
            | true => exact ha e
            | false => exact hb e
          obtain ⟨rest, hrest⟩ : ∃ rest, rest = (tosL b ds.length).filter fun t => !decide (t ∈ part) := ⟨_, rfl⟩
          rw [← hrest]
          have hrs : rest.Sublist (tosL b ds.length) := by rw [hrest]; exact List.filter_sublist
          obtain ⟨w0, ws', rfl⟩ : ∃ w0 ws', ws = w0 :: ws' := by
            cases ws with
            | nil => rw [List.length_nil] at hlw; omega
            | cons a b => exact ⟨a, b, rfl⟩
          rw [List.length_cons] at hlw
          refine ⟨sz3 2, _, 0, atA, ixN_nat (by simp), ?_⟩
          rw [put_mid2 hap]
          have W1 : ∀ w ∈ ((fromsL b ds.length, tosL b ds.length) :: ws'), WayOk b ds.length w := by
            intro w hw'
            rcases List.mem_cons.mp hw' with rfl | hw'
            · exact ⟨.all hfl, .all htl⟩
            · exact hw w (by simp [hw'])
          have stop := fun s11 => fin ((fromsL b ds.length, tosL b ds.length) :: ws') s11 (some (strsD part)) (some (strsL rest)) (by simp) (by rw [List.length_cons]; omega) W1 (fun _ f hf t ht => ⟨_, List.mem_cons_self .., hf, ht⟩)
          refine ⟨sz3 0, ?_⟩
          refine ite2 (fun h1 => ?_) (fun h1 => stop s11)
          refine ⟨_, atA, ?_⟩
          refine ite2 (fun h2 => ?_) (fun h2 => stop s11)
          refine ⟨p, s11, 2, _, rfl, rfl, by decide, by decide, fun r15 s15 h15 => ?_⟩
          refine ite2 (fun h3 => ?_) (fun h3 => stop s15)
          have h2' := of_decide_eq_true h2
          refine ⟨sz3 2, _, 0, atA, ixN_nat (by simp), ?_⟩
          rw [put_mid2 hap]
          have h2n : ws'.length + 1 < 6 := by
            have : ((((w0 :: ws').map wayD).set 0 (D.tup [D.tup ((fromsL b ds.length).map D.str), D.tup ((tosL b ds.length).map D.str)])).length : Int) < 6 := h2'
            rw [List.length_set, List.length_map, List.length_cons] at this
            omega
          refine ⟨⟨rfl, _, atA⟩, sz3 2, _, atA, ?_, ?_⟩
          · refine Nat.lt_of_le_of_lt (m := 10) ?_ (by decide)
            rw [List.length_set, List.length_set, List.length_map, List.length_cons]
            omega
          rw [put_mid2 hap]
          have hne : rest ≠ [] := fun z => by
            rw [z] at h1
            exact Bool.noConfusion h1
          have e9 : (((((w0 :: ws').map wayD).set 0 (D.tup [D.tup ((fromsL b ds.length).map D.str), D.tup ((tosL b ds.length).map D.str)])).set 0 (D.tup [D.tup ((fromsL b ds.length).map D.str), strsD part])) ++ [D.tup [D.tup ((fromsL b ds.length).map D.str).reverse, D.tup (rest.map D.str)]]) = (((fromsL b ds.length, part) :: ws') ++ [((fromsL b ds.length).reverse, rest)]).map wayD := by
            rw [List.map_append, ← List.map_reverse]
            rfl
          have W2 : ∀ w ∈ (((fromsL b ds.length, part) :: ws') ++ [((fromsL b ds.length).reverse, rest)]), WayOk b ds.length w := by
            intro w hw'
            rcases List.mem_append.mp hw' with hw' | hw'
            · rcases List.mem_cons.mp hw' with rfl | hw'
              · exact ⟨.all hfl, hpart⟩
              · exact hw w (by simp [hw'])
            · rw [List.mem_singleton] at hw'
              subst hw'
              exact ⟨.rev hfl, hne, rest, hrs, List.Perm.refl _⟩
          have := fin (((fromsL b ds.length, part) :: ws') ++ [((fromsL b ds.length).reverse, rest)]) s15 (some (strsD part)) (some (strsL rest)) (by simp) (by simp; omega) W2 (fun _ f hf t ht => by
            by_cases hp : t ∈ part
            · exact ⟨(fromsL b ds.length, part), by simp, hf, hp⟩
            · refine ⟨((fromsL b ds.length).reverse, rest), by simp, List.mem_reverse.mpr hf, ?_⟩
              rw [hrest, List.mem_filter]
              exact ⟨ht, by simp [hp]⟩)
          rw [← e9] at this
          exact this
  cases wh with
  | false =>
    have e : (1 : Int) + r2 = ((1 + r2 : Nat) : Int) := by omega
    have := tail (1 + r2) (by omega) (by omega) (fun _ => by omega)
    rw [← e] at this
    exact this
  | true =>
    by_cases h : (4 : Int) > 1 + r2
    · have := tail 4 (by omega) (by omega) (fun z => by cases z)
      have e : (if (4 : Int) > 1 + r2 then (4 : Int) else 1 + r2) = ((4 : Nat) : Int) := by rw [if_pos h]; rfl
      rw [← e] at this
      exact this
    · have e : (if (4 : Int) > 1 + r2 then (4 : Int) else 1 + r2) = ((1 + r2 : Nat) : Int) := by rw [if_neg h]; omega
      have := tail (1 + r2) (by omega) (by omega) (fun z => by cases z)
      rw [← e] at this
      exact this
end DL

namespace DL
open PySem PySem.Spec PyProof.Rows L2
/-! texts joined -/
theorem tj_cons (z x y : Str) (r : List Str) : Txt.join z (x :: y :: r) = x ++ z ++ Txt.join z (y :: r) := by
  rw [TL.join_eq, TL.join_eq]
  rfl
theorem tj_one (z x : Str) : Txt.join z [x] = x := by
  rw [TL.join_eq]
  rfl
theorem str_assoc (a b c : Str) : a ++ b ++ c = a ++ (b ++ c) := Str.append_assoc a b c
theorem tj_app (z : Str) : ∀ {xs ys : List Str}, xs ≠ [] → ys ≠ [] → Txt.join z (xs ++ ys) = Txt.join z xs ++ z ++ Txt.join z ys
  | [], _, h, _ => absurd rfl h
  | [x], [], _, h => absurd rfl h
  | [x], y :: ys, _, _ => by
    rw [tj_one]
    exact tj_cons z x y ys
  | x :: x' :: xs, ys, _, hy => by
    rw [List.cons_append, List.cons_append, tj_cons, tj_cons, ← List.cons_append, tj_app z (xs := x' :: xs) (by simp) hy]
    simp only [str_assoc]
theorem sum_lens {k : Nat} : ∀ {ts : List Str}, (∀ t ∈ ts, t.length ≤ k) → (ts.map (·.length)).sum ≤ k * ts.length
  | [], _ => by simp
  | t :: ts, h => by
    rw [List.map_cons, List.sum_cons, List.length_cons, Nat.mul_add, Nat.mul_one]
    have h1 := h t (by simp)
    have h2 := sum_lens (ts := ts) fun x hx => h x (by simp [hx])
    omega
theorem tj_len {z : Str} {ts : List Str} {k : Nat} (h : ∀ t ∈ ts, t.length ≤ k) : (Txt.join z ts).length ≤ (k + z.length) * ts.length := by
  rw [TL.join_eq]
  refine Nat.le_trans (StrLaws.join_length_le z ts) ?_
  have := sum_lens h
  rw [Nat.add_mul]
  have e : ts.length * z.length = z.length * ts.length := Nat.mul_comm _ _
  omega
theorem tj_sum {z : Str} {ts : List Str} {k : Nat} (h : ∀ t ∈ ts, t.length ≤ k) : (ts.map (·.length)).sum + ts.length * z.length ≤ (k + z.length) * ts.length := by
  have := sum_lens h
  rw [Nat.add_mul]
  have e : ts.length * z.length = z.length * ts.length := Nat.mul_comm _ _
  omega
/-! a machine's text -/
def doerL (d : Nat × List Str) : Str := ((("doer " : Str) ++ numS d.1) ++ (" " : Str)) ++ Txt.join " " d.2
def wayL (w : List Str × List Str) : Str := ((("way " : Str) ++ Txt.join " " w.1) ++ (" to " : Str)) ++ Txt.join " " w.2
def lagL (m : Mach) : Str := ("lag " : Str) ++ numS m.lag
def boxesL (m : Mach) : Str := ("boxes " : Str) ++ numS m.boxes
def Mach.lines (m : Mach) : List Str := ([lagL m, boxesL m] ++ m.doers.map doerL) ++ m.ways.map wayL
def Mach.text (m : Mach) : Str := Txt.join "\n" m.lines
theorem doer_eq {k : Nat} {ts : List Str} (h : ts ≠ []) : Txt.join " " ([("doer" : Str), numS k] ++ ts) = doerL (k, ts) := by
  rw [tj_app _ (by simp) h, tj_cons, tj_one]
  unfold doerL
  rw [show ("doer " : Str) = ("doer" : Str) ++ (" " : Str) from rfl]
theorem way_eq {fs ts : List Str} (hf : fs ≠ []) (ht : ts ≠ []) : Txt.join " " ((([("way" : Str)] ++ fs) ++ [("to" : Str)]) ++ ts) = wayL (fs, ts) := by
  rw [tj_app _ (by simp) ht, tj_app _ (by simp) (by simp), tj_app _ (by simp) hf, tj_one, tj_one]
  unfold wayL
  rw [show ("way " : Str) = ("way" : Str) ++ (" " : Str) from rfl, show (" to " : Str) = (" " : Str) ++ ("to" : Str) ++ (" " : Str) from rfl]
  simp only [str_assoc]
/-- what the texts need of a machine -/
structure Mach.Fit (m : Mach) : Prop where
  lag : m.lag < 200
  b2 : m.boxes < 200
  d2 : m.doers.length ≤ 100
  dk : ∀ d ∈ m.doers, d.1 < 200 ∧ d.2 ≠ [] ∧ d.2.length ≤ 100 ∧ StrsOk d.2
  w2 : m.ways.length ≤ 100
  wk : ∀ w ∈ m.ways, w.1 ≠ [] ∧ w.2 ≠ [] ∧ w.1.length ≤ 100 ∧ w.2.length ≤ 100 ∧ StrsOk w.1 ∧ StrsOk w.2
theorem SomeOf.ok {ts xs : List Str} (h : SomeOf ts xs) (o : StrsOk ts) : StrsOk xs := fun t ht => o t (h.mem t ht)
theorem Mach.Ok.fit {m : Mach} (h : m.Ok) : m.Fit := by
  have h1 := h.lag
  have h2 := h.b2
  have h3 := h.d2
  have h4 := h.w2
  refine ⟨by omega, by omega, by omega, fun d hd => ?_, by omega, fun w hw => ?_⟩
  · obtain ⟨a, b, c⟩ := h.dk d hd
    exact ⟨by omega, c.1, Nat.le_trans c.len (by decide), c.ok deeds_ok⟩
  · obtain ⟨a, b⟩ := h.wk w hw
    have l1 := a.len
    have l2 := b.len
    rw [froms_len] at l1
    rw [tos_len] at l2
    exact ⟨a.1, b.1, by omega, by omega, a.ok (froms_ok (by omega) (by omega)), b.ok (tos_ok (by omega) (by omega))⟩
def sp_machText : DSp := fun ds G Q _ => ∃ m : Mach, ds = [m.d] ∧ m.Fit ∧ Q (.str m.text) G
theorem len_machText : LenS sp_machText 1 := by rintro ds G Q xq ⟨m, rfl, _⟩; rfl
theorem len20 {ts : List Str} (h : StrsOk ts) : ∀ t ∈ ts, t.length ≤ 20 := fun t ht => (h t ht).2
theorem tj_sz {ts : List Str} (h : StrsOk ts) (hl : ts.length ≤ 100) : (Txt.join (" " : Str) ts).length ≤ 2100 := by
  have h1 := tj_len (z := (" " : Str)) (len20 h)
  have h2 : (20 + (" " : Str).length) * ts.length ≤ (20 + (" " : Str).length) * 100 := Nat.mul_le_mul_left _ hl
  exact Nat.le_trans h1 h2
theorem doerL_len {d : Nat × List Str} (h1 : d.1 < 200) (h2 : d.2.length ≤ 100) (h3 : StrsOk d.2) : (doerL d).length ≤ 5000 := by
  unfold doerL
  have a := numS_len h1
  have b := tj_sz h3 h2
  have c : ("doer " : Str).length = 5 := rfl
  have c2 : (" " : Str).length = 1 := rfl
  simp only [strLen_append]
  omega
theorem wayL_len {w : List Str × List Str} (h1 : w.1.length ≤ 100) (h2 : w.2.length ≤ 100) (h3 : StrsOk w.1) (h4 : StrsOk w.2) : (wayL w).length ≤ 5000 := by
  unfold wayL
  have a := tj_sz h3 h1
  have b := tj_sz h4 h2
  have c : ("way " : Str).length = 4 := rfl
  have c2 : (" to " : Str).length = 4 := rfl
  simp only [strLen_append]
  omega
theorem Mach.Fit.len {m : Mach} (h : m.Fit) : ∀ t ∈ m.lines, t.length ≤ 5000 := by
  intro t ht
  unfold Mach.lines at ht
  rcases List.mem_append.mp ht with ht | ht
  · rcases List.mem_append.mp ht with ht | ht
    · simp only [List.mem_cons, List.not_mem_nil, or_false] at ht
      rcases ht with rfl | rfl
      · have := numS_len h.lag
        have c : ("lag " : Str).length = 4 := rfl
        unfold lagL
        rw [strLen_append]
        omega
      · have := numS_len h.b2
        have c : ("boxes " : Str).length = 6 := rfl
        unfold boxesL
        rw [strLen_append]
        omega
    · obtain ⟨d, hd, rfl⟩ := List.mem_map.mp ht
      obtain ⟨a, b, c, e⟩ := h.dk d hd
      exact doerL_len a c e
  · obtain ⟨w, hw, rfl⟩ := List.mem_map.mp ht
    obtain ⟨a, b, c, e, f, g⟩ := h.wk w hw
    exact wayL_len c e f g
theorem lc5 {n : Nat} (h : n ≤ 16000000) : n ≤ sizeLine := Nat.le_trans h (by decide)
theorem lc6 {n : Nat} (h : n ≤ 16000000) : n < sizeLine := Nat.lt_of_le_of_lt h (by decide)
/-- both texts of a machine go alike, but for a line's own words -/
theorem mach_text {C : CB} (hC : C = .cons (.asg (.name 1) (.lst (.cons (.addv (.str "lag ") (.blt .str (.cons (.ix (.var 0) (.int 0)) .nil))) (.cons (.addv (.str "boxes ") (.blt .str (.cons (.ix (.var 0) (.int 1)) .nil))) .nil)))) (C.drop 1))
    (l1 : CE) (l2 : CE) (h1 : C.drop 1 = .cons (.fors (.tup 2 (.cons (.name 2) (.cons (.name 3) .nil))) (.it (.ix (.var 0) (.int 2))) (.cons (.expr (.mt .append (.var 1) (.cons l1 .nil))) .nil)) (C.drop 2))
    (h2 : C.drop 2 = .cons (.fors (.tup 2 (.cons (.name 4) (.cons (.name 5) .nil))) (.it (.ix (.var 0) (.int 3))) (.cons (.expr (.mt .append (.var 1) (.cons l2 .nil))) .nil)) (.lk 1 (.cons (.ret (.mt .join (.str "\n") (.cons (.var 1) .nil))) .nil)))
    (d1 : ∀ (x0 x1 x4 x5 : Option D) (d : Nat × List Str) (G : Sto) (Q : DQ) (xq : XQ), d.1 < 200 → d.2 ≠ [] → d.2.length ≤ 100 → StrsOk d.2 → Q (.str (doerL d)) G → denE [] [] l1 [x0, x1, some (.int d.1), some (strsD d.2), x4, x5] G Q xq)
    (d2 : ∀ (x0 x1 x2 x3 : Option D) (w : List Str × List Str) (G : Sto) (Q : DQ) (xq : XQ), w.1 ≠ [] → w.2 ≠ [] → w.1.length ≤ 100 → w.2.length ≤ 100 → StrsOk w.1 → StrsOk w.2 → Q (.str (wayL w)) G → denE [] [] l2 [x0, x1, x2, x3, some (strsD w.1), some (strsD w.2)] G Q xq) :
    Bod [] [] C 6 sp_machText := by
  rintro ds G Q xq ⟨m, rfl, hm, q⟩
  rw [hC]
  refine ⟨_, rfl, log_small hm.lag, cat_sz hm.lag (by decide), _, rfl, log_small hm.b2, cat_sz hm.b2 (by decide), sz3 2, fun a fa => ?_⟩
  rw [h1]
  refine ⟨_, rfl, ?_⟩
  show forS _ _ _ _ _ _ _
  refine for_op (I := fun k ρ G1 => ∃ (x2 x3 : Option D), ρ = [some m.d, some (.ref a), x2, x3, none, none] ∧ G1 = put G a (.lst (([lagL m, boxesL m] ++ (m.doers.take k).map doerL).map D.str))) ⟨none, none, rfl, rfl⟩ ?_ ?_
  · rintro i x hx ρ G1 E ⟨x2, x3, rfl, rfl⟩ eN eC eR eB eX
    obtain ⟨d, hd, rfl⟩ := get_map hx
    obtain ⟨b1, b2, b3, b4⟩ := hm.dk d (List.mem_of_getElem? hd)
    refine ⟨trivial, rfl, ⟨rfl, _, put_same⟩, ?_⟩
    refine d1 _ _ _ _ d _ _ _ b1 b2 b3 b4 ⟨_, put_same, ?_, ?_⟩
    · have := hm.d2
      exact lc6 (by simp; omega)
    · rw [put_put]
      refine eN _ _ _ .refl ⟨_, _, rfl, ?_⟩
      rw [← take_snoc hd]
      simp
  · rintro ρ G1 ⟨x2, x3, rfl, rfl⟩
    rw [List.length_map, List.take_length]
    refine ⟨trivial, ?_⟩
    rw [h2]
    refine ⟨_, rfl, ?_⟩
    show forS _ _ _ _ _ _ _
    refine for_op (I := fun k ρ G1 => ∃ (x2 x3 x4 x5 : Option D), ρ = [some m.d, some (.ref a), x2, x3, x4, x5] ∧ G1 = put G a (.lst ((([lagL m, boxesL m] ++ m.doers.map doerL) ++ (m.ways.take k).map wayL).map D.str))) ⟨_, _, _, _, rfl, by simp⟩ ?_ ?_
    · rintro i x hx ρ G1 E ⟨x2, x3, x4, x5, rfl, rfl⟩ eN eC eR eB eX
      obtain ⟨w, hw, rfl⟩ := get_map hx
      obtain ⟨b1, b2, b3, b4, b5, b6⟩ := hm.wk w (List.mem_of_getElem? hw)
      refine ⟨trivial, rfl, ⟨rfl, _, put_same⟩, ?_⟩
      refine d2 _ _ _ _ w _ _ _ b1 b2 b3 b4 b5 b6 ⟨_, put_same, ?_, ?_⟩
      · have := hm.d2
        have := hm.w2
        exact lc6 (by simp; omega)
      · rw [put_put]
        refine eN _ _ _ .refl ⟨_, _, _, _, rfl, ?_⟩
        rw [← take_snoc hw]
        simp
    · rintro ρ G1 ⟨x2, x3, x4, x5, rfl, rfl⟩
      rw [List.length_map, List.take_length]
      refine ⟨trivial, a, _, rfl, put_same, ?_⟩
      rw [drop_put fa]
      refine ⟨rfl, m.lines, rfl, ?_, q⟩
      refine Nat.le_trans (tj_sum hm.len) ?_
      have h3 : m.lines.length ≤ 202 := by
        have := hm.d2
        have := hm.w2
        unfold Mach.lines
        simp
        omega
      have h4 : (5000 + ("\n" : Str).length) * m.lines.length ≤ (5000 + ("\n" : Str).length) * 202 := Nat.mul_le_mul_left _ h3
      exact Nat.le_trans h4 (by decide)
theorem join_one_ok {ts : List Str} (h : StrsOk ts) (hl : ts.length ≤ 210) : (ts.map (·.length)).sum + ts.length * (" " : Str).length ≤ 16777216 := by
  refine Nat.le_trans (tj_sum (len20 h)) ?_
  have h4 : (20 + (" " : Str).length) * ts.length ≤ (20 + (" " : Str).length) * 210 := Nat.mul_le_mul_left _ hl
  exact Nat.le_trans h4 (by decide)
theorem num_sok {k : Nat} (h : k < 200) : PyData.strOk (numS k) = true ∧ (numS k).length ≤ 20 := ⟨strOk_of _, Nat.le_trans (numS_len h) (by decide)⟩
theorem body_machW : Bod [] [] machWC 6 sp_machText := by
  refine mach_text rfl _ _ rfl rfl (fun x0 x1 x4 x5 d G Q xq h1 h2 h3 h4 q => ?_) (fun x0 x1 x2 x3 w G Q xq h1 h2 h3 h4 h5 h6 q => ?_)
  · have b := tj_sz h4 h3
    have a := numS_len h1
    have c : ("doer " : Str).length = 5 := rfl
    have c2 : (" " : Str).length = 1 := rfl
    refine ⟨log_small h1, cat_sz h1 (by decide), ?_, rfl, ?_⟩
    · show (("doer " : Str) ++ numS d.1).length + (" " : Str).length ≤ _
      rw [strLen_append]
      exact lc5 (by omega)
    refine ⟨d.2, rfl, join_one_ok h4 (by omega), ?_, q⟩
    show ((("doer " : Str) ++ numS d.1) ++ (" " : Str)).length + (Txt.join " " d.2).length ≤ _
    simp only [strLen_append]
    exact lc5 (by omega)
  · have b := tj_sz h5 h3
    have b2 := tj_sz h6 h4
    have c : ("way " : Str).length = 4 := rfl
    have c2 : (" to " : Str).length = 4 := rfl
    refine ⟨rfl, w.1, rfl, join_one_ok h5 (by omega), ?_, ?_, rfl, ?_⟩
    · exact lc5 (by omega)
    · show (("way " : Str) ++ Txt.join " " w.1).length + (" to " : Str).length ≤ _
      rw [strLen_append]
      exact lc5 (by omega)
    refine ⟨w.2, rfl, join_one_ok h6 (by omega), ?_, q⟩
    show ((("way " : Str) ++ Txt.join " " w.1) ++ (" to " : Str)).length + (Txt.join " " w.2).length ≤ _
    simp only [strLen_append]
    exact lc5 (by omega)
theorem body_machT : Bod [] [] machTC 6 sp_machText := by
  refine mach_text rfl _ _ rfl rfl (fun x0 x1 x4 x5 d G Q xq h1 h2 h3 h4 q => ?_) (fun x0 x1 x2 x3 w G Q xq h1 h2 h3 h4 h5 h6 q => ?_)
  · refine ⟨rfl, log_small h1, sz3 2, lc5 (by simp; omega), [("doer" : Str), numS d.1] ++ d.2, ?_, ?_, ?_⟩
    · rw [List.map_append]
      rfl
    · refine join_one_ok (fun t ht => ?_) (by simp; omega)
      rcases List.mem_append.mp ht with ht | ht
      · simp only [List.mem_cons, List.not_mem_nil, or_false] at ht
        rcases ht with rfl | rfl
        · exact ⟨strOk_of "doer", by decide⟩
        · exact num_sok h1
      · exact h4 t ht
    · rw [doer_eq h2]
      exact q
  · refine ⟨rfl, sz3 1, lc5 (by simp; omega), sz3 1, lc5 (by simp; omega), lc5 (by simp; omega), (([("way" : Str)] ++ w.1) ++ [("to" : Str)]) ++ w.2, ?_, ?_, ?_⟩
    · simp only [List.map_append]
      rfl
    · refine join_one_ok (fun t ht => ?_) (by simp; omega)
      rcases List.mem_append.mp ht with ht | ht
      · rcases List.mem_append.mp ht with ht | ht
        · rcases List.mem_append.mp ht with ht | ht
          · rw [List.mem_singleton] at ht
            subst ht
            exact ⟨strOk_of "way", by decide⟩
          · exact h5 t ht
        · rw [List.mem_singleton] at ht
          subst ht
          exact ⟨strOk_of "to", by decide⟩
      · exact h6 t ht
    · rw [way_eq h1 h2]
      exact q
end DL

namespace DL
open PySem PySem.Spec PyProof.Rows L2
/-! a machine shown -/
theorem okD_tup {n : Nat} {ds : List D} (h : ∀ d ∈ ds, okD n d = true) : okD (n + 1) (.tup ds) = true := by
  unfold okD
  exact okDs_mem.mpr h
theorem okD_strs {ts : List Str} {n : Nat} (h : StrsOk ts) : okD (n + 1) (strsD ts) = true := okD_tup fun d hd => by
  obtain ⟨t, ht, rfl⟩ := List.mem_map.mp hd
  unfold okD
  exact (h t ht).1
theorem wD_strs {ts : List Str} (h : StrsOk ts) (hl : ts.length ≤ 100) : wD (strsD ts) ≤ 20404 := by
  unfold strsD wD
  have h1 := wDs_strs (len20 h)
  have h2 : (10 * 20 + 4) * ts.length ≤ (10 * 20 + 4) * 100 := Nat.mul_le_mul_left _ hl
  omega
theorem wD_num {k : Nat} (h : k < 200) : wD (.int k) ≤ 3 := by
  unfold wD
  exact numS_len h
theorem shD_num {k : Nat} (h : k < 200) : shD (.int k) = true := by
  unfold shD
  exact decide_eq_true (log_small h)
theorem Mach.Fit.shows {m : Mach} (h : m.Fit) : Shows m.d := by
  refine shows_tup (n := 3) ?_ ?_ (by decide) ?_
  · refine okDs_mem.mpr fun d hd => ?_
    simp only [List.mem_cons, List.not_mem_nil, or_false] at hd
    rcases hd with rfl | rfl | rfl | rfl
    · rfl
    · rfl
    · refine okD_tup fun d hd => ?_
      obtain ⟨x, hx, rfl⟩ := List.mem_map.mp hd
      refine okD_tup fun d hd => ?_
      simp only [List.mem_cons, List.not_mem_nil, or_false] at hd
      rcases hd with rfl | rfl
      · rfl
      · exact okD_strs (h.dk x hx).2.2.2
    · refine okD_tup fun d hd => ?_
      obtain ⟨x, hx, rfl⟩ := List.mem_map.mp hd
      refine okD_tup fun d hd => ?_
      simp only [List.mem_cons, List.not_mem_nil, or_false] at hd
      obtain ⟨_, _, _, _, a, b⟩ := h.wk x hx
      rcases hd with rfl | rfl
      · exact okD_strs a
      · exact okD_strs b
  · refine shDs_all fun d hd => ?_
    simp only [List.mem_cons, List.not_mem_nil, or_false] at hd
    rcases hd with rfl | rfl | rfl | rfl
    · exact shD_num h.lag
    · exact shD_num h.b2
    · unfold shD
      refine shDs_all fun d hd => ?_
      obtain ⟨x, hx, rfl⟩ := List.mem_map.mp hd
      unfold doerD shD
      refine shDs_all fun d hd => ?_
      simp only [List.mem_cons, List.not_mem_nil, or_false] at hd
      rcases hd with rfl | rfl
      · exact shD_num (h.dk x hx).1
      · exact shDs_strs _
    · unfold shD
      refine shDs_all fun d hd => ?_
      obtain ⟨x, hx, rfl⟩ := List.mem_map.mp hd
      unfold wayD shD
      refine shDs_all fun d hd => ?_
      simp only [List.mem_cons, List.not_mem_nil, or_false] at hd
      rcases hd with rfl | rfl
      · exact shDs_strs _
      · exact shDs_strs _
  · have a1 := wD_num h.lag
    have a2 := wD_num h.b2
    have a3 : wDs (m.doers.map doerD) ≤ (20420 + 2) * 100 := by
      refine Nat.le_trans (wDs_le (k := 20420) fun d hd => ?_) (Nat.mul_le_mul_left _ (by rw [List.length_map]; exact h.d2))
      obtain ⟨x, hx, rfl⟩ := List.mem_map.mp hd
      obtain ⟨b1, _, b2, b3⟩ := h.dk x hx
      have c1 := wD_num b1
      have c2 := wD_strs b3 b2
      show wDs [_, _] + 4 ≤ _
      simp only [wDs]
      omega
    have a4 : wDs (m.ways.map wayD) ≤ (40820 + 2) * 100 := by
      refine Nat.le_trans (wDs_le (k := 40820) fun d hd => ?_) (Nat.mul_le_mul_left _ (by rw [List.length_map]; exact h.w2))
      obtain ⟨x, hx, rfl⟩ := List.mem_map.mp hd
      obtain ⟨_, _, b1, b2, b3, b4⟩ := h.wk x hx
      have c1 := wD_strs b3 b1
      have c2 := wD_strs b4 b2
      show wDs [_, _] + 4 ≤ _
      simp only [wDs]
      omega
    show wDs [_, _, .tup _, .tup _] + 4 ≤ _
    simp only [wDs]
    have e1 : wD (.tup (m.doers.map doerD)) = wDs (m.doers.map doerD) + 4 := by unfold wD; rfl
    have e2 : wD (.tup (m.ways.map wayD)) = wDs (m.ways.map wayD) + 4 := by unfold wD; rfl
    omega
/-- the greatest machine -/
def Mach.great : Mach := ⟨3, 12, List.replicate 4 (4, deedsL), List.replicate 6 (fromsL 12 4, tosL 12 4)⟩
theorem Mach.great_ok : Mach.great.Ok := by
  refine ⟨by decide, by decide, by decide, by decide, by decide, fun d hd => ?_, by decide, by decide, fun w hw => ?_⟩
  · obtain rfl := List.eq_of_mem_replicate hd
    exact ⟨by decide, by decide, .all (by decide)⟩
  · obtain rfl := List.eq_of_mem_replicate hw
    exact ⟨.all (ne_of_len (by rw [froms_len]; decide)), .all (ne_of_len (by rw [tos_len]; decide))⟩
end DL

namespace DL
open PySem PySem.Spec PyProof.Rows L2
/-- _law_odd: slots 0 _law_pen 1 _law_far 2 _law_some; calls _law_draw; names  -/
def oddAC : CB := (.cons (.asg (.name 1) (.fn 0 (.cons (.var 0) (.cons (.bin .Pow (.int 10) (.int 30)) .nil)))) (.cons (.asg (.name 2) (.lstv (.cons .non (.cons (.bl true) (.cons (.bl false) (.cons (.bin .Sub (.neg (.int 1)) (.var 1)) (.cons (.var 1) (.cons (.str "") (.cons (.str "num") (.cons (.str "0") (.cons (.lstv .nil) (.cons (.tup .nil) (.cons (.dctv .nil) (.cons (.tup (.cons (.int 0) .nil)) (.cons (.lstv (.cons (.int 1) .nil)) (.cons (.tup (.cons (.str "num") (.cons (.int 5) .nil))) (.cons (.dctv (.cons (.str "a") (.lstv (.cons (.int 1) .nil)) .nil)) (.cons (.lstv (.cons (.lstv (.cons (.lstv .nil) .nil)) .nil)) .nil)))))))))))))))))) (.cons (.asg (.name 2) (.addv (.var 2) (.lstv (.cons (.int 65536) (.cons (.int 65535) (.cons (.tup (.cons (.tup .nil) (.cons (.tup .nil) .nil))) (.cons (.tup (.cons (.tup (.cons (.str "num") (.cons (.int 1) .nil))) (.cons (.tup (.cons (.str "tell") .nil)) .nil))) (.cons (.tup (.cons (.str "box") (.cons (.bl true) .nil))) (.cons (.tup (.cons (.str "end") .nil)) (.cons (.str "box0") (.cons (.tup (.cons (.str "go") (.cons (.int 0) .nil))) .nil))))))))))) (.cons (.ret (.ix (.var 2) (.fn 0 (.cons (.var 0) (.cons (.blt .len (.cons (.var 2) .nil)) .nil))))) .nil))))
/-- _law_whole_by: slots 0 _law_found; calls ; names  -/
def wholeAC : CB := (.cons (.ret (.and (.blt .isi (.cons (.var 0) (.cons (.tn .int) .nil))) (.not (.blt .isi (.cons (.var 0) (.cons (.tn .bool) .nil)))))) .nil)
/-- _law_move_by: slots 0 _law_pen 1 _law_machine 2 _law_stretches 3 _law_way 4 _law_source 5 _law_skills 6 _law_goals 7 _law_box 8 _law_doer; calls _law_draw _law_worth; names  -/
def moveAC : CB := (.cons (.asg (.name 3) (.fn 0 (.cons (.var 0) (.cons (.int 5) .nil)))) (.cons (.par2 7 8 (.cons (.fn 0 (.cons (.var 0) (.cons (.ix (.var 1) (.int 1)) .nil))) (.cons (.fn 0 (.cons (.var 0) (.cons (.blt .len (.cons (.ix (.var 1) (.int 2)) .nil)) .nil))) .nil))) (.cons (.asg (.name 4) (.ix (.lstv (.cons (.tup (.cons (.str "num") (.cons (.fn 1 (.cons (.var 0) .nil)) .nil))) (.cons (.tup (.cons (.str "box") (.cons (.var 7) .nil))) (.cons (.tup (.cons (.str "out") (.cons (.var 8) .nil))) .nil)))) (.ix (.lstv (.cons (.int 0) (.cons (.int 1) (.cons (.int 1) (.cons (.int 2) (.cons (.int 2) .nil)))))) (.var 3)))) (.cons (.asg (.name 3) (.fn 0 (.cons (.var 0) (.cons (.int 12) .nil)))) (.cons (.par2 7 8 (.cons (.fn 0 (.cons (.var 0) (.cons (.ix (.var 1) (.int 1)) .nil))) (.cons (.fn 0 (.cons (.var 0) (.cons (.blt .len (.cons (.ix (.var 1) (.int 2)) .nil)) .nil))) .nil))) (.cons (.asg (.name 5) (.ix (.ix (.ix (.var 1) (.int 2)) (.var 8)) (.int 1))) (.cons (.asg (.name 6) (.lstv (.cons (.tup (.cons (.str "box") (.cons (.var 7) .nil))) (.cons (.tup (.cons (.str "in") (.cons (.var 8) .nil))) (.cons (.tup (.cons (.str "start") (.cons (.var 8) (.cons (.ix (.var 5) (.fn 0 (.cons (.var 0) (.cons (.blt .len (.cons (.var 5) .nil)) .nil)))) .nil)))) (.cons (.tup (.cons (.str "tell") .nil)) .nil)))))) (.cons (.asg (.name 6) (.addv (.var 6) (.lstv (.cons (.tup (.cons (.str "go") (.cons (.fn 0 (.cons (.var 0) (.cons (.var 2) .nil))) .nil))) (.cons (.tup (.cons (.str "end") .nil)) .nil))))) (.cons (.ret (.tup (.cons (.var 4) (.cons (.ix (.var 6) (.ix (.lstv (.cons (.int 0) (.cons (.int 0) (.cons (.int 0) (.cons (.int 1) (.cons (.int 1) (.cons (.int 1) (.cons (.int 2) (.cons (.int 2) (.cons (.int 2) (.cons (.int 3) (.cons (.int 4) (.cons (.int 5) .nil))))))))))))) (.var 3))) .nil)))) .nil)))))))))
/-- _law_ports: slots 0 _law_move 1 _law_source 2 _law_goal 3 _law_begin 4 _law_end; calls ; names  -/
def portsAC : CB := (.cons (.asg (.tup 2 (.cons (.name 1) (.cons (.name 2) .nil))) (.var 0)) (.cons (.par2 3 4 (.cons (.ix (.var 1) (.int 0)) (.cons (.ix (.var 2) (.int 0)) .nil))) (.cons (.ifs (.cmp .NotEq (.var 3) (.str "num")) (.cons (.asg (.name 3) (.addv (.var 3) (.blt .str (.cons (.ix (.var 1) (.int 1)) .nil)))) .nil) .nil) (.cons (.ifs (.cmp .In (.var 4) (.tup (.cons (.str "box") (.cons (.str "in") (.cons (.str "start") .nil))))) (.cons (.asg (.name 4) (.addv (.var 4) (.blt .str (.cons (.ix (.var 2) (.int 1)) .nil)))) .nil) .nil) (.cons (.ret (.tup (.cons (.var 3) (.cons (.var 4) .nil)))) .nil)))))
/-- _law_carry: slots 0 _law_machine 1 _law_moves 2 _law_some 3 _law_way 4 _law_begin 5 _law_end 6 _law_other; calls _law_carry _law_ports; names  -/
def carryAC : CB := (.cons (.ifs (.cmp .Eq (.blt .len (.cons (.var 1) .nil)) (.int 0)) (.cons (.ret (.bl true)) .nil) .nil) (.cons (.asg (.tup 2 (.cons (.name 4) (.cons (.name 5) .nil))) (.fn 1 (.cons (.ix (.var 1) (.int 0)) .nil))) (.cons (.fors (.name 3) (.it (.var 2)) (.cons (.ifs (.and (.cmp .In (.var 4) (.ix (.ix (.ix (.var 0) (.int 3)) (.var 3)) (.int 0))) (.cmp .In (.var 5) (.ix (.ix (.ix (.var 0) (.int 3)) (.var 3)) (.int 1)))) (.cons (.ifs (.val (.fn 0 (.cons (.var 0) (.cons (.slv (.var 1) (.part (.int 1)) .no) (.cons (.lcv [("_law_other", 6)] (.name 6) (.it (.var 2)) (.one (.cmp .NotEq (.var 6) (.var 3))) (.var 6)) .nil))))) (.cons (.ret (.bl true)) .nil) .nil) .nil) .nil) .nil)) (.cons (.ret (.bl false)) .nil))))
/-- _law_moves_by: slots 0 _law_pen 1 _law_machine 2 _law_most 3 _law_moves 4 _law_found 5 _law_move 6 _law_joins 7 _law_k 8 _law_begin 9 _law_end 10 _law_way; calls _law_draw _law_ports _law_move_by; names  -/
def movesAC : CB := (.cons (.setLcv 3 [("_law_k", 7)] (.name 7) (.rng1 (.fn 0 (.cons (.var 0) (.cons (.addv (.var 2) (.int 1)) .nil)))) .no (.fn 2 (.cons (.var 0) (.cons (.var 1) (.cons (.int 6) .nil))))) (.cons (.ifs (.cmp .Eq (.fn 0 (.cons (.var 0) (.cons (.int 2) .nil))) (.int 0)) (.cons (.ret (.var 3)) .nil) .nil) (.cons (.asg (.name 4) (.lst .nil)) (.cons (.fors (.name 5) (.it (.var 3)) (.cons (.asg (.tup 2 (.cons (.name 8) (.cons (.name 9) .nil))) (.fn 1 (.cons (.var 5) .nil))) (.cons (.setLcv 6 [("_law_way", 10)] (.name 10) (.it (.ix (.var 1) (.int 3))) (.one (.and (.cmp .In (.var 8) (.ix (.var 10) (.int 0))) (.cmp .In (.var 9) (.ix (.var 10) (.int 1))))) (.var 10)) (.cons (.ifs (.or (.cmp .Gt (.blt .len (.cons (.var 6) .nil)) (.int 0)) (.cmp .Eq (.fn 0 (.cons (.var 0) (.cons (.int 6) .nil))) (.int 0))) (.cons (.expr (.mt .append (.var 4) (.cons (.var 5) .nil))) .nil) .nil) .nil)))) (.lk 4 (.cons (.ret (.var 4)) .nil))))))
/-- _law_some_ways: slots 0 _law_pen 1 _law_machine 2 _law_bits 3 _law_way; calls _law_draw; names  -/
def someWAC : CB := (.cons (.asg (.name 2) (.fn 0 (.cons (.var 0) (.cons (.int 128) .nil)))) (.cons (.ifs (.cmp .Gt (.var 2) (.int 99)) (.cons (.ret .non) .nil) .nil) (.cons (.ret (.blt .tuple (.cons (.lcv [("_law_way", 3)] (.name 3) (.rng1 (.blt .len (.cons (.ix (.var 1) (.int 3)) .nil))) (.one (.cmp .Eq (.bin .Mod (.bin .FloorDiv (.var 2) (.ix (.lstv (.cons (.int 1) (.cons (.int 2) (.cons (.int 4) (.cons (.int 8) (.cons (.int 16) (.cons (.int 32) .nil))))))) (.var 3))) (.int 2)) (.int 1))) (.var 3)) .nil))) .nil)))
/-- _law_bent: slots 0 _law_pen 1 _law_thing 2 _law_deep 3 _law_way 4 _law_at 5 _law_more 6 _law_some 7 _law_letter 8 _law_word; calls _law_odd _law_draw _law_bent; names  -/
def bentAC : CB := (.cons (.ifs (.and (.val (.blt .isi (.cons (.var 1) (.cons (.tn .tuple) .nil)))) (.and (.cmp .NotEq (.var 1) (.tup .nil)) (.and (.cmp .Gt (.var 2) (.int 0)) (.cmp .Gt (.fn 1 (.cons (.var 0) (.cons (.int 4) .nil))) (.int 0))))) (.cons (.asg (.name 4) (.fn 1 (.cons (.var 0) (.cons (.blt .len (.cons (.var 1) .nil)) .nil)))) (.cons (.ret (.addv (.addv (.slv (.var 1) .no (.part (.var 4))) (.tup (.cons (.fn 2 (.cons (.var 0) (.cons (.ix (.var 1) (.var 4)) (.cons (.bin .Sub (.var 2) (.int 1)) .nil)))) .nil))) (.slv (.var 1) (.part (.addv (.var 4) (.int 1))) .no))) .nil)) .nil) (.cons (.asg (.name 3) (.fn 1 (.cons (.var 0) (.cons (.int 7) .nil)))) (.cons (.ifs (.and (.val (.blt .isi (.cons (.var 1) (.cons (.tn .tuple) .nil)))) (.cmp .Lt (.var 3) (.int 5))) (.cons (.asg (.name 4) (.fn 1 (.cons (.var 0) (.cons (.addv (.blt .len (.cons (.var 1) .nil)) (.int 1)) .nil)))) (.cons (.asg (.name 5) (.slv (.var 1) (.part (.var 4)) (.part (.addv (.var 4) (.int 1))))) (.cons (.asg (.name 6) (.lstv (.cons (.addv (.slv (.var 1) .no (.part (.var 4))) (.slv (.var 1) (.part (.addv (.var 4) (.int 1))) .no)) (.cons (.addv (.addv (.slv (.var 1) .no (.part (.var 4))) (.var 5)) (.slv (.var 1) (.part (.var 4)) .no)) (.cons (.lofv (.var 1)) (.cons (.revv (.var 1)) .nil)))))) (.cons (.ret (.ix (.addv (.var 6) (.lstv (.cons (.addv (.addv (.slv (.var 1) .no (.part (.var 4))) (.tup (.cons (.fn 0 (.cons (.var 0) .nil)) .nil))) (.slv (.var 1) (.part (.var 4)) .no)) .nil))) (.var 3))) .nil)))) .nil) (.cons (.ifs (.and (.val (.blt .isi (.cons (.var 1) (.cons (.tn .int) .nil)))) (.cmp .Lt (.var 3) (.int 4))) (.cons (.ret (.ix (.lstv (.cons (.addv (.var 1) (.int 1)) (.cons (.bin .Sub (.var 1) (.int 1)) (.cons (.bin .Sub (.int 0) (.var 1)) (.cons (.addv (.var 1) (.fn 1 (.cons (.var 0) (.cons (.bin .Pow (.int 10) (.int 20)) .nil)))) .nil))))) (.var 3))) .nil) .nil) (.cons (.ifs (.and (.val (.blt .isi (.cons (.var 1) (.cons (.tn .str) .nil)))) (.cmp .Lt (.var 3) (.int 5))) (.cons (.asg (.name 4) (.fn 1 (.cons (.var 0) (.cons (.addv (.blt .len (.cons (.var 1) .nil)) (.int 1)) .nil)))) (.cons (.asg (.name 7) (.ix (.str "abcdefghijklmnopqrstuvwxyz0123456789 ") (.fn 1 (.cons (.var 0) (.cons (.int 37) .nil))))) (.cons (.asg (.name 8) (.ix (.lstv (.cons (.str "add") (.cons (.str "less") (.cons (.str "times") (.cons (.str "both") (.cons (.str "odd") (.cons (.str "same") (.cons (.str "under") (.cons (.str "num") (.cons (.str "box0") (.cons (.str "box1") (.cons (.str "out0") (.cons (.str "in0") (.cons (.str "start0") (.cons (.str "tell") (.cons (.str "go") (.cons (.str "end") (.cons (.str "box11") (.cons (.str "out3") (.cons (.str "in3") (.cons (.str "start3") .nil))))))))))))))))))))) (.fn 1 (.cons (.var 0) (.cons (.int 20) .nil))))) (.cons (.ret (.ix (.lstv (.cons (.addv (.addv (.slv (.var 1) .no (.part (.var 4))) (.var 7)) (.slv (.var 1) (.part (.var 4)) .no)) (.cons (.addv (.slv (.var 1) .no (.part (.var 4))) (.slv (.var 1) (.part (.addv (.var 4) (.int 1))) .no)) (.cons (.addv (.var 1) (.str "0")) (.cons (.var 8) (.cons (.mt .upper (.var 1) .nil) .nil)))))) (.var 3))) .nil)))) .nil) (.cons (.ret (.fn 0 (.cons (.var 0) .nil))) .nil))))))
/-- _law_shown: slots 0 _law_machine 1 _law_moves 2 _law_ways 3 _law_thing 4 _law_met 5 _law_k 6 _law_at 7 _law_joins 8 _law_begin 9 _law_end 10 _law_way; calls _law_ports _law_whole_by; names  -/
def shownAC : CB := (.cons (.ifs (.or (.not (.val (.blt .isi (.cons (.var 3) (.cons (.tn .tuple) .nil))))) (.not (.val (.blt .all (.cons (.lcv [("_law_at", 6)] (.name 6) (.it (.var 3)) .no (.and (.fn 1 (.cons (.var 6) .nil)) (.chn .LtE .Lt (.int 0) (.var 6) (.blt .len (.cons (.var 1) .nil))))) .nil))))) (.cons (.ret (.bl false)) .nil) .nil) (.cons (.asg (.name 4) (.lstv .nil)) (.cons (.fors (.tup 2 (.cons (.name 5) (.cons (.name 6) .nil))) (.enum (.var 3)) (.cons (.ifs (.and (.cmp .Gt (.var 5) (.int 0)) (.cmp .GtE (.ix (.var 3) (.bin .Sub (.var 5) (.int 1))) (.var 6))) (.cons (.ret (.bl false)) .nil) .nil) (.cons (.asg (.tup 2 (.cons (.name 8) (.cons (.name 9) .nil))) (.fn 0 (.cons (.ix (.var 1) (.var 6)) .nil))) (.cons (.setLcv 7 [("_law_way", 10)] (.name 10) (.it (.var 2)) (.one (.and (.cmp .In (.var 8) (.ix (.ix (.ix (.var 0) (.int 3)) (.var 10)) (.int 0))) (.cmp .In (.var 9) (.ix (.ix (.ix (.var 0) (.int 3)) (.var 10)) (.int 1))))) (.var 10)) (.cons (.asg (.name 4) (.addv (.var 4) (.lcv [("_law_way", 10)] (.name 10) (.it (.var 7)) (.one (.cmp .NotIn (.var 10) (.var 4))) (.var 10)))) .nil))))) (.cons (.ret (.cmp .Lt (.blt .len (.cons (.var 4) .nil)) (.blt .len (.cons (.var 3) .nil)))) .nil))))
/-- is_whole: slots 0 thing; calls ; names  -/
def isWholeC : CB := (.cons (.ret (.and (.blt .isi (.cons (.var 0) (.cons (.tn .int) .nil))) (.not (.blt .isi (.cons (.var 0) (.cons (.tn .bool) .nil)))))) .nil)
/-- is_within: slots 0 thing 1 least 2 most; calls is_whole; names  -/
def isWithinC : CB := (.cons (.ret (.and (.fn 0 (.cons (.var 0) .nil)) (.chn .LtE .LtE (.var 1) (.var 0) (.var 2)))) .nil)
/-- from_port: slots 0 source; calls ; names  -/
def fromPortC : CB := (.cons (.ifs (.cmp .Eq (.ix (.var 0) (.int 0)) (.str "num")) (.cons (.ret (.str "num")) .nil) .nil) (.cons (.ret (.addv (.ix (.var 0) (.int 0)) (.blt .str (.cons (.ix (.var 0) (.int 1)) .nil)))) .nil))
/-- to_port: slots 0 goal; calls ; names  -/
def toPortC : CB := (.cons (.ifs (.cmp .In (.ix (.var 0) (.int 0)) (.tup (.cons (.str "tell") (.cons (.str "go") (.cons (.str "end") .nil))))) (.cons (.ret (.ix (.var 0) (.int 0))) .nil) .nil) (.cons (.ret (.addv (.ix (.var 0) (.int 0)) (.blt .str (.cons (.ix (.var 0) (.int 1)) .nil)))) .nil))
/-- ports_of: slots 0 move; calls to_port from_port; names  -/
def portsOfC : CB := (.cons (.ret (.tup (.cons (.fn 1 (.cons (.ix (.var 0) (.int 0)) .nil)) (.cons (.fn 0 (.cons (.ix (.var 0) (.int 1)) .nil)) .nil)))) .nil)
/-- joined: slots 0 machine 1 begin 2 end 3 k 4 way; calls ; names  -/
def joinedC : CB := (.cons (.ret (.blt .tuple (.cons (.lcv [("k", 3), ("way", 4)] (.tup 2 (.cons (.name 3) (.cons (.name 4) .nil))) (.enum (.ix (.var 0) (.int 3))) (.one (.and (.cmp .In (.var 1) (.ix (.var 4) (.int 0))) (.cmp .In (.var 2) (.ix (.var 4) (.int 1))))) (.var 3)) .nil))) .nil)
/-- some_ways: slots 0 machine 1 some; calls ; names  -/
def someWPC : CB := (.cons (.ifs (.cmp .Is (.var 1) .non) (.cons (.ret (.rg false (.blt .len (.cons (.ix (.var 0) (.int 3)) .nil)))) .nil) .nil) (.cons (.ret (.var 1)) .nil))
/-- ways_of: slots 0 machine 1 moves 2 some 3 found 4 move 5 begin 6 end 7 way; calls joined ports_of; names  -/
def waysOfC : CB := (.cons (.asg (.name 3) (.lst .nil)) (.cons (.fors (.name 4) (.it (.var 1)) (.cons (.asg (.tup 2 (.cons (.name 5) (.cons (.name 6) .nil))) (.fn 1 (.cons (.var 4) .nil))) (.cons (.expr (.mt .append (.var 3) (.cons (.lcv [("way", 7)] (.name 7) (.it (.fn 0 (.cons (.var 0) (.cons (.var 5) (.cons (.var 6) .nil))))) (.one (.cmp .In (.var 7) (.var 2))) (.var 7)) .nil))) .nil))) (.lk 3 (.cons (.ret (.var 3)) .nil))))
/-- stuck_shown: slots 0 machine 1 moves 2 some 3 thing 4 choices 5 met 6 ways 7 one 8 way; calls ways_of some_ways is_within; names  -/
def stuckShownC : CB := (.cons (.ifs (.or (.not (.val (.blt .isi (.cons (.var 3) (.cons (.tn .tuple) .nil))))) (.not (.val (.blt .all (.cons (.lcv [("one", 7)] (.name 7) (.it (.var 3)) .no (.fn 2 (.cons (.var 7) (.cons (.int 0) (.cons (.bin .Sub (.blt .len (.cons (.var 1) .nil)) (.int 1)) .nil))))) .nil))))) (.cons (.ret (.bl false)) .nil) .nil) (.cons (.ifs (.cmp .NotEq (.lofv (.var 3)) (.ssetv (.var 3))) (.cons (.ret (.bl false)) .nil) .nil) (.cons (.asg (.name 4) (.fn 0 (.cons (.var 0) (.cons (.lcv [("one", 7)] (.name 7) (.it (.var 3)) .no (.ix (.var 1) (.var 7))) (.cons (.fn 1 (.cons (.var 0) (.cons (.var 2) .nil))) .nil))))) (.cons (.asg (.name 5) (.lst .nil)) (.cons (.fors (.name 6) (.it (.var 4)) (.cons (.expr (.mt .extend (.var 5) (.cons (.lcv [("way", 8)] (.name 8) (.it (.var 6)) (.one (.cmp .NotIn (.var 8) (.var 5))) (.var 8)) .nil))) .nil)) (.lk 5 (.cons (.ret (.cmp .Lt (.blt .len (.cons (.var 5) .nil)) (.blt .len (.cons (.var 3) .nil)))) .nil)))))))
end DL

namespace DL
open PySem PySem.Spec PyProof.Rows L2
/-! moves -/
inductive Src where
  | num (w : Int) | box (k : Nat) | out (k : Nat)
inductive Goal where
  | box (k : Nat) | inn (k : Nat) | start (k : Nat) (s : Str) | tell | go (k : Nat) | fin
def Src.d : Src → D
  | .num w => .tup [.str "num", .int w]
  | .box k => .tup [.str "box", .int k]
  | .out k => .tup [.str "out", .int k]
def Goal.d : Goal → D
  | .box k => .tup [.str "box", .int k]
  | .inn k => .tup [.str "in", .int k]
  | .start k s => .tup [.str "start", .int k, .str s]
  | .tell => .tup [.str "tell"]
  | .go k => .tup [.str "go", .int k]
  | .fin => .tup [.str "end"]
def Src.port : Src → Str
  | .num _ => "num"
  | .box k => boxS k
  | .out k => outS k
def Goal.port : Goal → Str
  | .box k => boxS k
  | .inn k => inS k
  | .start k _ => startS k
  | .tell => "tell"
  | .go _ => "go"
  | .fin => "end"
def Src.Ok (m : Mach) : Src → Prop
  | .num w => 0 ≤ w ∧ w < 65536
  | .box k => k < m.boxes
  | .out k => k < m.doers.length
def Goal.Ok (m : Mach) (st : Nat) : Goal → Prop
  | .box k => k < m.boxes
  | .inn k => k < m.doers.length
  | .start k s => ∃ d, m.doers[k]? = some d ∧ s ∈ d.2
  | .tell => True
  | .go k => k < st
  | .fin => True
def moveD (s : Src) (g : Goal) : D := .tup [s.d, g.d]
theorem Src.port_mem {m : Mach} {s : Src} (h : s.Ok m) : s.port ∈ fromsL m.boxes m.doers.length := by
  unfold fromsL
  cases s with
  | num w => simp [Src.port]
  | box k => exact List.mem_append_left _ (List.mem_append_right _ (List.mem_map.mpr ⟨k, List.mem_range.mpr h, rfl⟩))
  | out k => exact List.mem_append_right _ (List.mem_map.mpr ⟨k, List.mem_range.mpr h, rfl⟩)
theorem Goal.port_mem {m : Mach} {st : Nat} {g : Goal} (h : g.Ok m st) : g.port ∈ tosL m.boxes m.doers.length := by
  unfold tosL
  cases g with
  | box k => exact List.mem_append_left _ (List.mem_append_left _ (List.mem_map.mpr ⟨k, List.mem_range.mpr h, rfl⟩))
  | inn k => exact List.mem_append_left _ (List.mem_append_right _ (List.mem_flatMap.mpr ⟨k, List.mem_range.mpr h, by simp [Goal.port]⟩))
  | start k s =>
    obtain ⟨d, hd, _⟩ := h
    exact List.mem_append_left _ (List.mem_append_right _ (List.mem_flatMap.mpr ⟨k, List.mem_range.mpr (List.getElem?_eq_some_iff.mp hd).1, by simp [Goal.port]⟩))
  | tell => simp [Goal.port]
  | go k => simp [Goal.port]
  | fin => simp [Goal.port]
/-- numbers small enough to be told -/
def Src.Few : Src → Prop
  | .num _ => True
  | .box k => k < 200
  | .out k => k < 200
def Goal.Few : Goal → Prop
  | .box k => k < 200
  | .inn k => k < 200
  | .start k _ => k < 200
  | _ => True
theorem Src.Ok.few {m : Mach} (hm : m.Ok) {s : Src} (h : s.Ok m) : s.Few := by
  have := hm.b2
  have := hm.d2
  cases s with
  | num w => trivial
  | box k => have h' : k < m.boxes := h; show k < 200; omega
  | out k => have h' : k < m.doers.length := h; show k < 200; omega
theorem Goal.Ok.few {m : Mach} (hm : m.Ok) {st : Nat} {g : Goal} (h : g.Ok m st) : g.Few := by
  have := hm.b2
  have := hm.d2
  cases g with
  | box k => have h' : k < m.boxes := h; show k < 200; omega
  | inn k => have h' : k < m.doers.length := h; show k < 200; omega
  | start k s =>
    obtain ⟨d, hd, _⟩ := h
    have h' := (List.getElem?_eq_some_iff.mp hd).1
    show k < 200
    omega
  | tell => trivial
  | go k => trivial
  | fin => trivial
def sp_p_from_port : DSp := fun ds G Q _ => ∃ s : Src, ds = [s.d] ∧ s.Few ∧ Q (.str s.port) G
theorem len_p_from_port : LenS sp_p_from_port 1 := by rintro ds G Q xq ⟨s, rfl, _⟩; rfl
theorem body_p_from_port : Bod [] [] fromPortC 1 sp_p_from_port := by
  rintro ds G Q xq ⟨s, rfl, h, q⟩
  cases s with
  | num w => exact ⟨_, rfl, q⟩
  | box k => exact ⟨_, rfl, _, rfl, _, rfl, log_small h, cat_sz h (by decide), q⟩
  | out k => exact ⟨_, rfl, _, rfl, _, rfl, log_small h, cat_sz h (by decide), q⟩
def sp_p_to_port : DSp := fun ds G Q _ => ∃ g : Goal, ds = [g.d] ∧ g.Few ∧ Q (.str g.port) G
theorem len_p_to_port : LenS sp_p_to_port 1 := by rintro ds G Q xq ⟨s, rfl, _⟩; rfl
theorem body_p_to_port : Bod [] [] toPortC 1 sp_p_to_port := by
  rintro ds G Q xq ⟨g, rfl, h, q⟩
  cases g with
  | box k => exact ⟨_, rfl, sz3 3, rfl, rfl, _, rfl, _, rfl, log_small h, cat_sz h (by decide), q⟩
  | inn k => exact ⟨_, rfl, sz3 3, rfl, rfl, _, rfl, _, rfl, log_small h, cat_sz h (by decide), q⟩
  | start k s => exact ⟨_, rfl, sz3 3, rfl, rfl, _, rfl, _, rfl, log_small h, cat_sz h (by decide), q⟩
  | tell => exact ⟨_, rfl, sz3 3, rfl, rfl, _, rfl, q⟩
  | go k => exact ⟨_, rfl, sz3 3, rfl, rfl, _, rfl, q⟩
  | fin => exact ⟨_, rfl, sz3 3, rfl, rfl, _, rfl, q⟩
def sp_p_ports_of : DSp := fun ds G Q _ => ∃ (s : Src) (g : Goal), ds = [moveD s g] ∧ s.Few ∧ g.Few ∧ Q (.tup [.str s.port, .str g.port]) G
theorem len_p_ports_of : LenS sp_p_ports_of 1 := by rintro ds G Q xq ⟨s, g, rfl, _⟩; rfl
theorem body_p_ports_of : Bod [sp_p_to_port, sp_p_from_port] [] portsOfC 1 sp_p_ports_of := by
  rintro ds G Q xq ⟨s, g, rfl, hs, hg, q⟩
  exact ⟨_, rfl, s, rfl, hs, _, rfl, g, rfl, hg, sz3 2, q⟩
def sp_l_ports : DSp := fun ds G Q _ => ∃ (s : Src) (g : Goal), ds = [moveD s g] ∧ s.Few ∧ g.Few ∧ Q (.tup [.str s.port, .str g.port]) G
theorem len_l_ports : LenS sp_l_ports 1 := by rintro ds G Q xq ⟨s, g, rfl, _⟩; rfl
theorem body_l_ports : Bod [] [] portsAC 5 sp_l_ports := by
  rintro ds G Q xq ⟨s, g, rfl, hs, hg, q⟩
  refine ⟨rfl, ?_⟩
  have tail : denB [] [] (portsAC.drop 3) (Fin0 Q xq) [some (moveD s g), some s.d, some g.d, some (.str s.port), some (match g.d with | .tup (x :: _) => x | _ => .non)] G := by
    cases g with
    | box k => exact ⟨sz3 3, rfl, rfl, _, rfl, log_small hg, cat_sz hg (by decide), sz3 2, q⟩
    | inn k => exact ⟨sz3 3, rfl, rfl, _, rfl, log_small hg, cat_sz hg (by decide), sz3 2, q⟩
    | start k s => exact ⟨sz3 3, rfl, rfl, _, rfl, log_small hg, cat_sz hg (by decide), sz3 2, q⟩
    | tell => exact ⟨sz3 3, rfl, rfl, sz3 2, q⟩
    | go k => exact ⟨sz3 3, rfl, rfl, sz3 2, q⟩
    | fin => exact ⟨sz3 3, rfl, rfl, sz3 2, q⟩
  have hg0 : ∃ x r, g.d = .tup (x :: r) := by cases g <;> exact ⟨_, _, rfl⟩
  obtain ⟨x, r, hgd⟩ := hg0
  have hat : atI (x :: r) 0 = some x := atI_nat (j := 0) rfl
  cases s with
  | num w =>
    refine ⟨_, rfl, ?_⟩
    cases g <;> exact ⟨_, rfl, tail⟩
  | box k =>
    refine ⟨_, rfl, ?_⟩
    cases g <;> exact ⟨_, rfl, _, rfl, log_small hs, cat_sz hs (by decide), tail⟩
  | out k =>
    refine ⟨_, rfl, ?_⟩
    cases g <;> exact ⟨_, rfl, _, rfl, log_small hs, cat_sz hs (by decide), tail⟩
/-! a move drawn -/
structure Move where
  s : Src
  g : Goal
def Move.d (m : Move) : D := moveD m.s m.g
def Move.Ok (m : Mach) (st : Nat) (v : Move) : Prop := v.s.Ok m ∧ v.g.Ok m st
def sp_l_move_by : DSp := fun ds G Q _ => ∃ (p : Addr) (s : Pn) (G0 : Sto) (m : Mach) (st : Nat), ds = [.ref p, m.d, .int st] ∧ G = put G0 p s.c ∧ m.Ok ∧ 1 ≤ st ∧ st ≤ 100 ∧ ∀ (v : Move) (s' : Pn), v.Ok m st → Q v.d (put G0 p s'.c)
theorem len_l_move_by : LenS sp_l_move_by 3 := by rintro ds G Q xq ⟨p, s, G0, m, st, rfl, _⟩; rfl
set_option maxHeartbeats 0 in
theorem body_l_move_by : Bod [spDraw, spWorth] [] moveAC 9 sp_l_move_by := by
  rintro ds G Q xq ⟨p, s, G0, m, st, rfl, rfl, hm, hst, hst2, q⟩
  have hb1 := hm.b1
  have hb2 := hm.b2
  have hd1 := hm.d1
  have hd2 := hm.d2
  refine ⟨p, s, 5, G0, rfl, rfl, by decide, by decide, fun r1 s1 h1 => ?_⟩
  refine ⟨_, rfl, p, s1, _, G0, rfl, rfl, by omega, by omega, fun bx s2 h2 => ?_⟩
  refine ⟨_, rfl, p, s2, _, G0, rfl, rfl, by rw [List.length_map]; omega, by rw [List.length_map]; omega, fun dr s3 h3 => ?_⟩
  rw [List.length_map] at h3
  refine ⟨p, s3, G0, rfl, rfl, fun w s4 hw => ?_⟩
  refine ⟨sz3 2, sz3 2, sz3 2, sz3 3, sz3 5, ?_⟩
  -- behind the source
  have tail : ∀ (sr : Src) (x3 : Option D), sr.Ok m → denB [spDraw, spWorth] [] (moveAC.drop 3) (Fin0 Q xq) [some (.ref p), some m.d, some (.int st), x3, some sr.d, none, none, some (.int bx), some (.int dr)] (put G0 p s4.c) := by
    intro sr x3 hs
    refine ⟨p, s4, 12, G0, rfl, rfl, by decide, by decide, fun r7 s7 h7 => ?_⟩
    refine ⟨_, rfl, p, s7, _, G0, rfl, rfl, by omega, by omega, fun b2 s8 h8 => ?_⟩
    refine ⟨_, rfl, p, s8, _, G0, rfl, rfl, by rw [List.length_map]; omega, by rw [List.length_map]; omega, fun d2 s9 h9 => ?_⟩
    rw [List.length_map] at h9
    have h9' : d2 < m.doers.length := by omega
    obtain ⟨dd, hdd⟩ : ∃ dd, m.doers[d2]? = some dd := ⟨_, List.getElem?_eq_getElem h9'⟩
    have hat : atI (m.doers.map doerD) (d2 : Int) = some (doerD dd) := atI_nat (by rw [List.getElem?_map, hdd]; rfl)
    refine ⟨_, rfl, _, hat, _, rfl, ?_⟩
    obtain ⟨hk1, hk2, hsome⟩ := hm.dk dd (List.mem_of_getElem? hdd)
    have hlen : 1 ≤ dd.2.length := List.length_pos_iff.mpr hsome.1
    have hlen2 : dd.2.length ≤ 7 := hsome.len
    refine ⟨sz3 2, sz3 2, p, s9, _, G0, rfl, rfl, by rw [List.length_map]; omega, by rw [List.length_map]; omega, fun j s10 h10 => ?_⟩
    rw [List.length_map] at h10
    have h10' : j < dd.2.length := by omega
    obtain ⟨sk, hsk⟩ : ∃ sk, dd.2[j]? = some sk := ⟨_, List.getElem?_eq_getElem h10'⟩
    have hat2 : atI (dd.2.map D.str) (j : Int) = some (.str sk) := atI_nat (by rw [List.getElem?_map, hsk]; rfl)
    refine ⟨_, hat2, sz3 3, sz3 1, sz3 4, ?_⟩
    refine ⟨p, s10, _, G0, rfl, rfl, by omega, by omega, fun g12 s12 h12 => ?_⟩
    refine ⟨sz3 2, sz3 1, sz3 2, sz3 6, sz3 12, ?_⟩
    have h7' : r7 < 12 := by omega
    have ob : Goal.Ok m st (.box b2) := by show b2 < m.boxes; omega
    have oi : Goal.Ok m st (.inn d2) := by show d2 < m.doers.length; omega
    have os : Goal.Ok m st (.start d2 sk) := ⟨dd, hdd, List.mem_of_getElem? hsk⟩
    have og : Goal.Ok m st (.go g12) := by show g12 < st; omega
    match r7, h7' with
    | 0, _ => exact ⟨_, rfl, _, rfl, sz3 2, q ⟨sr, .box b2⟩ s12 ⟨hs, ob⟩⟩
    | 1, _ => exact ⟨_, rfl, _, rfl, sz3 2, q ⟨sr, .box b2⟩ s12 ⟨hs, ob⟩⟩
    | 2, _ => exact ⟨_, rfl, _, rfl, sz3 2, q ⟨sr, .box b2⟩ s12 ⟨hs, ob⟩⟩
    | 3, _ => exact ⟨_, rfl, _, rfl, sz3 2, q ⟨sr, .inn d2⟩ s12 ⟨hs, oi⟩⟩
    | 4, _ => exact ⟨_, rfl, _, rfl, sz3 2, q ⟨sr, .inn d2⟩ s12 ⟨hs, oi⟩⟩
    | 5, _ => exact ⟨_, rfl, _, rfl, sz3 2, q ⟨sr, .inn d2⟩ s12 ⟨hs, oi⟩⟩
    | 6, _ => exact ⟨_, rfl, _, rfl, sz3 2, q ⟨sr, .start d2 sk⟩ s12 ⟨hs, os⟩⟩
    | 7, _ => exact ⟨_, rfl, _, rfl, sz3 2, q ⟨sr, .start d2 sk⟩ s12 ⟨hs, os⟩⟩
    | 8, _ => exact ⟨_, rfl, _, rfl, sz3 2, q ⟨sr, .start d2 sk⟩ s12 ⟨hs, os⟩⟩
    | 9, _ => exact ⟨_, rfl, _, rfl, sz3 2, q ⟨sr, .tell⟩ s12 ⟨hs, trivial⟩⟩
    | 10, _ => exact ⟨_, rfl, _, rfl, sz3 2, q ⟨sr, .go g12⟩ s12 ⟨hs, og⟩⟩
    | 11, _ => exact ⟨_, rfl, _, rfl, sz3 2, q ⟨sr, .fin⟩ s12 ⟨hs, trivial⟩⟩
  have h1' : r1 < 5 := by omega
  have o1' : Src.Ok m (.num w) := by have : w < 65536 := hw; exact ⟨by omega, by omega⟩
  have o2' : Src.Ok m (.box bx) := by show bx < m.boxes; omega
  have o3' : Src.Ok m (.out dr) := by show dr < m.doers.length; omega
  match r1, h1' with
  | 0, _ => exact ⟨_, rfl, _, rfl, tail (.num w) _ o1'⟩
  | 1, _ => exact ⟨_, rfl, _, rfl, tail (.box bx) _ o2'⟩
  | 2, _ => exact ⟨_, rfl, _, rfl, tail (.box bx) _ o2'⟩
  | 3, _ => exact ⟨_, rfl, _, rfl, tail (.out dr) _ o3'⟩
  | 4, _ => exact ⟨_, rfl, _, rfl, tail (.out dr) _ o3'⟩
/-! ways that join -/
def joinB (b e : Str) (w : List Str × List Str) : Bool := decide (b ∈ w.1) && decide (e ∈ w.2)
def joinsAt (m : Mach) (b e : Str) (k : Nat) : Bool := match m.ways[k]? with
  | some w => joinB b e w
  | none => false
theorem joinsAt_eq {m : Mach} {b e : Str} {k : Nat} {w : List Str × List Str} (h : m.ways[k]? = some w) : joinsAt m b e k = joinB b e w := by
  unfold joinsAt
  rw [h]
def pickD {α : Type} (f : α → D) (xs : List α) (k : Nat) : D := match xs[k]? with
  | some x => f x
  | none => .non
theorem pickD_eq {α : Type} {f : α → D} {xs : List α} {k : Nat} {x : α} (h : xs[k]? = some x) : pickD f xs k = f x := by
  unfold pickD
  rw [h]
def joinsL (m : Mach) (b e : Str) : List Nat := (List.range m.ways.length).filter (joinsAt m b e)
def natT (ks : List Nat) : D := .tup (ks.map natD)
def natR (ks : List Nat) : D := .rl (ks.map natD)
def sp_p_joined : DSp := fun ds G Q _ => ∃ (m : Mach) (b e : Str), ds = [m.d, .str b, .str e] ∧ m.ways.length ≤ 100 ∧ Q (natT (joinsL m b e)) G
theorem len_p_joined : LenS sp_p_joined 3 := by rintro ds G Q xq ⟨m, b, e, rfl, _⟩; rfl
theorem enumD_get {ds : List D} {i : Nat} {d : D} (h : ds[i]? = some d) : (enumD ds)[i]? = some (.tup [.int (i : Nat), d]) := by
  unfold enumD
  rw [List.getElem?_mapIdx, h]
  rfl
theorem enum_range {α : Type} (xs : List α) (f : α → D) : enumD (xs.map f) = (List.range xs.length).map fun k => D.tup [natD k, pickD f xs k] := by
  refine List.ext_getElem? fun i => ?_
  rw [List.getElem?_map]
  by_cases h : i < xs.length
  · rw [List.getElem?_range h, enumD_get (d := f xs[i]) (by rw [List.getElem?_map, List.getElem?_eq_getElem h]; rfl)]
    show _ = some (D.tup [natD i, pickD f xs i])
    rw [pickD_eq (List.getElem?_eq_getElem h)]
    rfl
  · rw [List.getElem?_eq_none (by rw [enumD_len, List.length_map]; omega), List.getElem?_eq_none (by rw [List.length_range]; omega)]
    rfl
theorem body_p_joined : Bod [] [] joinedC 5 sp_p_joined := by
  rintro ds G Q xq ⟨m, b, e, rfl, hl, q⟩
  refine ⟨_, rfl, ?_⟩
  show lcS _ _ _ _ _ _ (enumD (m.ways.map wayD)) _ _
  refine lc_filtA (fun k : Nat => D.tup [natD k, pickD wayD m.ways k]) (joinsAt m b e) natD (xs := List.range m.ways.length) (enum_range _ _) (by rw [List.length_range]; exact Nat.lt_of_le_of_lt hl (by decide)) trivial (fun i k hk K N ha hb => ?_) q
  have hk' := List.mem_range.mp (List.mem_of_getElem? hk)
  obtain ⟨w, hw⟩ : ∃ w, m.ways[k]? = some w := ⟨_, List.getElem?_eq_getElem hk'⟩
  rw [joinsAt_eq hw] at ha hb
  rw [pickD_eq hw]
  unfold joinB at ha hb
  refine ⟨rfl, _, rfl, rfl, strs_flat _, ?_⟩
  rw [memF_str]
  refine ite2 (fun h1 => ?_) (fun h1 => ?_)
  · refine ⟨_, rfl, rfl, strs_flat _, ?_⟩
    rw [memF_str]
    rw [h1] at ha hb
    refine ite2 (fun h2 => ha (by rw [h2]; rfl)) (fun h2 => hb ?_)
    rw [Bool.not_eq_true] at h2
    rw [h2]
    rfl
  · rw [Bool.not_eq_true] at h1
    exact hb (by rw [h1]; rfl)
end DL

namespace DL
open PySem PySem.Spec PyProof.Rows L2
/-! things of any kind, by value -/
def th0 : D → Bool
  | .ty _ => false
  | .sc _ => false
  | .ref _ => false
  | _ => true
def thB : D → Bool
  | .tup ds => ds.all th0 && decide (ds.length ≤ 40)
  | d => th0 d
theorem thB.th0 {d : D} (h : thB d = true) : th0 d = true := by
  cases d <;> first | rfl | exact h
def wholeB : D → Bool
  | .int _ => true
  | _ => false
def withinB (lo hi : Int) : D → Bool
  | .int i => decide (lo ≤ i) && decide (i ≤ hi)
  | _ => false
def spWhole : DSp := fun ds G Q _ => ∃ d, ds = [d] ∧ th0 d = true ∧ Q (.bl (wholeB d)) G
theorem len_whole : LenS spWhole 1 := by rintro ds G Q xq ⟨d, rfl, _⟩; rfl
theorem body_isWhole : Bod [] [] isWholeC 1 spWhole := by
  rintro ds G Q xq ⟨d, rfl, h, q⟩
  cases d with
  | non => exact ⟨_, rfl, q⟩
  | bl b => exact ⟨_, rfl, _, rfl, q⟩
  | int i => exact ⟨_, rfl, _, rfl, q⟩
  | str x => exact ⟨_, rfl, q⟩
  | tup x => exact ⟨_, rfl, q⟩
  | rl x => exact ⟨_, rfl, q⟩
  | rd x y => exact ⟨_, rfl, q⟩
  | ty _ => cases h
  | sc _ => cases h
  | ref _ => cases h
def spWithin : DSp := fun ds G Q _ => ∃ d lo hi, ds = [d, .int lo, .int hi] ∧ th0 d = true ∧ Q (.bl (withinB lo hi d)) G
theorem len_within : LenS spWithin 3 := by rintro ds G Q xq ⟨d, lo, hi, rfl, _⟩; rfl
theorem within_not {lo hi : Int} {d : D} (h : wholeB d = false) : withinB lo hi d = false := by
  cases d <;> first | rfl | cases h
theorem body_isWithin : Bod [spWhole] [] isWithinC 3 spWithin := by
  rintro ds G Q xq ⟨d, lo, hi, rfl, h, q⟩
  refine ⟨d, rfl, h, ?_⟩
  cases e : wholeB d with
  | false =>
    rw [within_not e] at q
    exact q
  | true =>
    cases d with
    | int i =>
      have q : Q (.bl (decide (lo ≤ i) && decide (i ≤ hi))) G := q
      refine ite2 (fun h1 => ?_) (fun h1 => ?_)
      · rw [h1] at q
        exact q
      · rw [Bool.not_eq_true] at h1
        rw [h1] at q
        exact q
    | _ => cases e
/-! a thing of any kind -/
def spOdd : DSp := fun ds G Q _ => ∃ (p : Addr) (s : Pn) (G0 : Sto), ds = [.ref p] ∧ G = put G0 p s.c ∧ ∀ (d : D) (s' : Pn), thB d = true → Q d (put G0 p s'.c)
theorem len_odd : LenS spOdd 1 := by rintro ds G Q xq ⟨p, s, G0, rfl, _⟩; rfl
set_option maxHeartbeats 0 in
theorem body_odd : Bod [spDraw] [] oddAC 3 spOdd := by
  rintro ds G Q xq ⟨p, s, G0, rfl, rfl, q⟩
  refine ⟨⟨by decide, by decide, by decide⟩, p, s, _, G0, rfl, rfl, by decide, by decide, fun far s1 h1 => ?_⟩
  have fin : ∀ (L : List D), L.length = 24 → L.all thB = true → denB [spDraw] [] (oddAC.drop 3) (Fin0 Q xq) [some (.ref p), some (.int far), some (.rl L)] (put G0 p s1.c) := by
    intro L hlen hall
    refine ⟨p, s1, _, G0, rfl, rfl, by rw [hlen]; decide, by rw [hlen]; decide, fun r s2 h2 => ?_⟩
    have hr : r < L.length := by omega
    exact ⟨_, atI_nat (List.getElem?_eq_getElem hr), q _ s2 (List.all_eq_true.mp hall _ (List.getElem_mem hr))⟩
  refine ⟨sz3 0, sz3 0, [], rfl, by decide, rfl, sz3 1, sz3 1, sz3 2, sz3 1, [(.inr "a", .rl [.int 1])], rfl, by decide, rfl, sz3 0, sz3 1, sz3 1, sz3 16, ?_⟩
  refine ⟨sz3 0, sz3 0, sz3 2, sz3 2, sz3 1, sz3 2, sz3 2, sz3 1, sz3 2, sz3 8, sz3 24, ?_⟩
  exact fin _ rfl rfl
/-! a tuple of places bent -/
def spBent (n : Nat) : DSp := fun ds G Q _ => ∃ (p : Addr) (s : Pn) (G0 : Sto) (d : D) (j : Nat), ds = [.ref p, d, .int j] ∧ j < n ∧ G = put G0 p s.c ∧ ((∃ ks : List Nat, d = natT ks ∧ ks.length ≤ 30) ∨ ∃ k : Nat, d = natD k) ∧ ∀ (d' : D) (s' : Pn), th0 d' = true → ((∃ ks : List Nat, d = natT ks) → thB d' = true) → Q d' (put G0 p s'.c)
theorem len_bent (n : Nat) : LenS (spBent n) 3 := by rintro ds G Q xq ⟨p, s, G0, d, j, rfl, _⟩; rfl
theorem bent_0 {ds : List D} {G : Sto} {Q : DQ} {xq : XQ} (h : spBent 0 ds G Q xq) : False := by
  obtain ⟨p, s, G0, d, j, _, h, _⟩ := h
  omega
theorem th_nat (ks : List Nat) : (ks.map natD).all th0 = true := List.all_eq_true.mpr fun d hd => by
  obtain ⟨k, _, rfl⟩ := List.mem_map.mp hd
  rfl
theorem th_cut {ds : List D} (h : ds.all th0 = true) (lo hi : Option Int) : (cutD ds lo hi).all th0 = true := by
  refine List.all_eq_true.mpr fun d hd => List.all_eq_true.mp h d ?_
  unfold cutD at hd
  exact List.mem_of_mem_drop (List.mem_of_mem_take hd)
theorem cut_len (ds : List D) (lo hi : Option Int) : (cutD ds lo hi).length ≤ ds.length := by
  unfold cutD
  rw [List.length_take, List.length_drop]
  omega
theorem cut_none {xs : List D} {j : Nat} (h : xs.length ≤ j) : cutD xs (some (j : Int)) none = [] := by
  refine List.eq_nil_of_length_eq_zero ?_
  unfold cutD
  rw [List.length_take, List.length_drop, HT.sIx_nat]
  omega
theorem cut_one {xs : List D} {j : Nat} : (cutD xs (some (j : Int)) (some ((j : Int) + 1))).length ≤ 1 := by
  unfold cutD
  rw [List.length_take, List.length_drop, show ((j : Int) + 1) = ((j + 1 : Nat) : Int) by omega, HT.sIx_nat, HT.sIx_nat]
  omega
theorem th_tup {ds : List D} (h : ds.all th0 = true) (hl : ds.length ≤ 40) : thB (.tup ds) = true := by
  show (ds.all th0 && decide (ds.length ≤ 40)) = true
  rw [h, decide_eq_true hl]
  rfl
theorem th_app {xs ys : List D} (h : xs.all th0 = true) (k : ys.all th0 = true) : (xs ++ ys).all th0 = true := by
  rw [List.all_append, h, k]
  rfl
set_option maxHeartbeats 0 in
theorem body_bent (n : Nat) : Bod [spOdd, spDraw, spBent n] [] bentAC 9 (spBent (n + 1)) := by
  rintro ds G Q xq ⟨p, s, G0, d, j, rfl, hj, rfl, hd, q⟩
  have odd : ∀ (s1 : Pn), (∀ (d' : D) (s' : Pn), thB d' = true → Q d' (put G0 p s'.c)) := fun s1 d' s' h => q d' s' (thB.th0 h) fun _ => h
  rcases hd with ⟨ks, rfl, hl⟩ | ⟨k, rfl⟩
  · -- a tuple
    have way : ∀ s1 : Pn, denB [spOdd, spDraw, spBent n] [] (bentAC.drop 1) (Fin0 Q xq) [some (.ref p), some (natT ks), some (.int j), none, none, none, none, none, none] (put G0 p s1.c) := by
      intro s1
      refine ⟨p, s1, 7, G0, rfl, rfl, by decide, by decide, fun w s2 h2 => ?_⟩
      refine ⟨_, rfl, ?_⟩
      refine ite2 (fun h5 => ?_) (fun h5 => ?_)
      · have h5' := of_decide_eq_true h5
        refine ⟨p, s2, _, G0, rfl, rfl, by rw [List.length_map]; omega, by rw [List.length_map]; omega, fun at_ s3 h3 => ?_⟩
        rw [List.length_map] at h3
        have c1 : ∀ lo hi, (cutD (ks.map natD) lo hi).length ≤ 30 := fun lo hi => Nat.le_trans (cut_len _ lo hi) (by rw [List.length_map]; exact hl)
        have t1 : ∀ lo hi, (cutD (ks.map natD) lo hi).all th0 = true := fun lo hi => th_cut (th_nat ks) lo hi
        have two : ∀ {a b : List D}, a.length ≤ 100 → b.length ≤ 100 → a.length + b.length ≤ sizeLine := fun h1 h2 => Nat.le_trans (Nat.add_le_add h1 h2) (by decide)
        have cat : ∀ {a b : List D}, a.length ≤ 31 → b.length ≤ 60 → (a ++ b).length ≤ 100 := fun h1 h2 => by rw [List.length_append]; omega
        have b31 : ∀ lo hi, (cutD (ks.map natD) lo hi).length ≤ 31 := fun lo hi => Nat.le_trans (c1 lo hi) (by decide)
        have b100 : ∀ lo hi, (cutD (ks.map natD) lo hi).length ≤ 100 := fun lo hi => Nat.le_trans (c1 lo hi) (by decide)
        refine ⟨two (b100 _ _) (b100 _ _), two (b100 _ _) (b100 _ _), two (cat (b31 _ _) (Nat.le_trans (c1 _ _) (by decide))) (b100 _ _), sz3 4, ?_⟩
        refine ⟨p, s3, G0, rfl, rfl, fun o s4 ho => ⟨sz3 1, two (b100 _ _) (by simp), two (cat (b31 _ _) (by simp)) (b100 _ _), sz3 1, sz3 5, ?_⟩⟩
        have hat : at_ ≤ ks.length := by omega
        have elo : cutD (ks.map natD) none (some (at_ : Int)) = (ks.map natD).take at_ := cut_hi _ (by rw [List.length_map]; exact hat)
        have ehi : cutD (ks.map natD) (some (at_ : Int)) none = (ks.map natD).drop at_ := cut_lo _ (by rw [List.length_map]; exact hat)
        have sum : ((ks.map natD).take at_).length + ((ks.map natD).drop at_).length ≤ 30 := by
          rw [List.length_take, List.length_drop, List.length_map]
          omega
        have w5 : w < 5 := by omega
        match w, w5 with
        | 0, _ => exact ⟨_, rfl, odd s4 _ s4 (th_tup (th_app (t1 _ _) (t1 _ _)) (by
            rw [List.length_append, elo]
            have : (cutD (ks.map natD) (some ((at_ : Int) + 1)) none).length ≤ 30 - at_ := by
              have e : ((at_ : Int) + 1) = ((at_ + 1 : Nat) : Int) := by omega
              rw [e]
              by_cases h9 : at_ + 1 ≤ ks.length
              · rw [cut_lo _ (by rw [List.length_map]; exact h9), List.length_drop, List.length_map]
                omega
              · have e9 : at_ = ks.length := by omega
                have z := cut_none (xs := ks.map natD) (j := at_ + 1) (by rw [List.length_map]; omega)
                rw [z]
                simp
            rw [List.length_take, List.length_map]
            omega))⟩
        | 1, _ => exact ⟨_, rfl, odd s4 _ s4 (th_tup (th_app (th_app (t1 _ _) (t1 _ _)) (t1 _ _)) (by
            rw [List.length_append, List.length_append, elo, ehi]
            have := cut_one (xs := ks.map natD) (j := at_)
            omega))⟩
        | 2, _ => exact ⟨_, rfl, odd s4 _ s4 rfl⟩
        | 3, _ => exact ⟨_, rfl, odd s4 _ s4 (th_tup (by rw [List.all_reverse]; exact th_nat ks) (by rw [List.length_reverse, List.length_map]; omega))⟩
        | 4, _ => exact ⟨_, rfl, odd s4 _ s4 (th_tup (th_app (th_app (t1 _ _) (by
            show (th0 o && true) = true
            rw [thB.th0 ho]
            rfl)) (t1 _ _)) (by
            rw [List.length_append, List.length_append, elo, ehi, List.length_singleton]
            omega))⟩
      · refine ⟨_, rfl, _, rfl, p, s2, G0, rfl, rfl, odd s2⟩
    refine ⟨_, rfl, sz3 0, ?_⟩
    refine ite2 (fun h1 => ?_) (fun h1 => way s)
    refine ite2 (fun h2 => ?_) (fun h2 => way s)
    refine ⟨p, s, 4, G0, rfl, rfl, by decide, by decide, fun r s1 hr => ?_⟩
    refine ite2 (fun h3 => ?_) (fun h3 => way s1)
    have hk0 : 0 < ks.length := by
      cases ks with
      | nil => cases h1
      | cons _ _ => simp
    have hj0 := of_decide_eq_true h2
    refine ⟨p, s1, _, G0, rfl, rfl, by rw [List.length_map]; omega, by rw [List.length_map]; omega, fun at_ s2 h4 => ?_⟩
    rw [List.length_map] at h4
    have hat : at_ < ks.length := by omega
    have hx : atI (ks.map natD) (at_ : Int) = some (natD ks[at_]) := atI_nat (by rw [List.getElem?_map, List.getElem?_eq_getElem hat]; rfl)
    refine ⟨_, hx, p, s2, G0, natD ks[at_], j - 1, ?_, by omega, rfl, .inr ⟨_, rfl⟩, fun d' s3 hd' _ => ?_⟩
    · show [D.ref p, natD ks[at_], D.int ((j : Int) - 1)] = [D.ref p, natD ks[at_], D.int ((j - 1 : Nat) : Int)]
      rw [show ((j : Int) - 1) = ((j - 1 : Nat) : Int) by omega]
    · have e1 : cutD (ks.map natD) none (some (at_ : Int)) = (ks.map natD).take at_ := cut_hi _ (by rw [List.length_map]; omega)
      have e2 : cutD (ks.map natD) (some ((at_ : Int) + 1)) none = (ks.map natD).drop (at_ + 1) := by
        rw [show ((at_ : Int) + 1) = ((at_ + 1 : Nat) : Int) by omega]
        exact cut_lo _ (by rw [List.length_map]; omega)
      have l1 : ((ks.map natD).take at_).length = at_ := by rw [List.length_take, List.length_map]; omega
      have l2 : ((ks.map natD).drop (at_ + 1)).length = ks.length - (at_ + 1) := by rw [List.length_drop, List.length_map]
      refine ⟨sz3 1, ?_, ?_, ?_⟩
      · rw [e1, l1]
        exact Nat.le_trans (m := 100) (by simp; omega) (by decide)
      · rw [e1, e2, List.length_append, l1, l2]
        exact Nat.le_trans (m := 100) (by simp; omega) (by decide)
      · refine odd s3 _ s3 (th_tup (th_app (th_app (th_cut (th_nat ks) _ _) ?_) (th_cut (th_nat ks) _ _)) ?_)
        · show (th0 d' && true) = true
          rw [hd']
          rfl
        · rw [List.length_append, List.length_append, e1, e2, l1, l2]
          simp
          omega
  · -- a number
    refine ⟨_, rfl, p, s, 7, G0, rfl, rfl, by decide, by decide, fun w s2 h2 => ?_⟩
    refine ⟨_, rfl, _, rfl, ?_⟩
    have num : ∀ (d' : D) (s' : Pn), th0 d' = true → Q d' (put G0 p s'.c) := fun d' s' h => q d' s' h fun ⟨ks, e⟩ => by cases e
    refine ite2 (fun h4 => ?_) (fun h4 => ?_)
    · have h4' := of_decide_eq_true h4
      refine ⟨⟨by decide, by decide, by decide⟩, p, s2, _, G0, rfl, rfl, by decide, by decide, fun r s3 h3 => ⟨sz3 4, ?_⟩⟩
      have w4 : w < 4 := by omega
      match w, w4 with
      | 0, _ => exact ⟨_, rfl, num _ s3 rfl⟩
      | 1, _ => exact ⟨_, rfl, num _ s3 rfl⟩
      | 2, _ => exact ⟨_, rfl, num _ s3 rfl⟩
      | 3, _ => exact ⟨_, rfl, num _ s3 rfl⟩
    · exact ⟨_, rfl, p, s2, G0, rfl, rfl, odd s2⟩
end DL

namespace DL
open PySem PySem.Spec PyProof.Rows L2
/-! moves over ways -/
def movesR (vs : List Move) : D := .rl (vs.map Move.d)
def mvJ (m : Mach) (v : Move) (k : Nat) : Bool := joinsAt m v.s.port v.g.port k
def waysB (m : Mach) (b : Nat → Bool) : List Nat := (List.range m.ways.length).filter b
def jnL (m : Mach) (b : Nat → Bool) (v : Move) : List Nat := (waysB m b).filter (mvJ m v)
def metS (m : Mach) (b : Nat → Bool) (acc : List Nat) (v : Move) : List Nat := acc ++ (jnL m b v).filter fun k => !decide (k ∈ acc)
def metL (m : Mach) (b : Nat → Bool) (vs : List Move) : List Nat := vs.foldl (metS m b) []
def pick (vs : List Move) (ks : List Nat) : List Move := ks.filterMap fun k => vs[k]?
theorem metL_snoc (m : Mach) (b : Nat → Bool) (vs : List Move) (v : Move) : metL m b (vs ++ [v]) = metS m b (metL m b vs) v := by
  unfold metL
  rw [List.foldl_append]
  rfl
theorem pick_snoc {vs : List Move} {ks : List Nat} {k : Nat} {v : Move} (h : vs[k]? = some v) : pick vs (ks ++ [k]) = pick vs ks ++ [v] := by
  unfold pick
  rw [List.filterMap_append]
  simp [h]
theorem waysB_len (m : Mach) (b : Nat → Bool) : (waysB m b).length ≤ m.ways.length := by
  unfold waysB
  exact Nat.le_trans (List.length_filter_le _ _) (by rw [List.length_range]; exact Nat.le_refl _)
theorem jnL_len (m : Mach) (b : Nat → Bool) (v : Move) : (jnL m b v).length ≤ m.ways.length := Nat.le_trans (List.length_filter_le _ _) (waysB_len m b)
theorem metS_len (m : Mach) (b : Nat → Bool) (acc : List Nat) (v : Move) : (metS m b acc v).length ≤ acc.length + m.ways.length := by
  unfold metS
  rw [List.length_append]
  have := Nat.le_trans (List.length_filter_le (fun k => !decide (k ∈ acc)) (jnL m b v)) (jnL_len m b v)
  omega
theorem metF_len (m : Mach) (b : Nat → Bool) : ∀ (vs : List Move) (acc : List Nat), (vs.foldl (metS m b) acc).length ≤ acc.length + m.ways.length * vs.length
  | [], acc => by simp
  | v :: vs, acc => by
    rw [List.foldl_cons, List.length_cons, Nat.mul_add, Nat.mul_one]
    have h1 := metF_len m b vs (metS m b acc v)
    have h2 := metS_len m b acc v
    omega
theorem metL_len (m : Mach) (b : Nat → Bool) (vs : List Move) : (metL m b vs).length ≤ m.ways.length * vs.length := by
  have := metF_len m b vs []
  simpa [metL] using this
theorem pick_len (vs : List Move) (ks : List Nat) : (pick vs ks).length ≤ ks.length := List.length_filterMap_le _ _
def natOf : D → Nat
  | .int i => i.toNat
  | _ => 0
def shownB (m : Mach) (vs : List Move) (b : Nat → Bool) : D → Bool
  | .tup ds => ds.all (withinB 0 ((vs.length : Int) - 1)) && (decide ((ds.map natOf).Pairwise (· < ·)) && decide ((metL m b (pick vs (ds.map natOf))).length < ds.length))
  | _ => false
theorem nats_of {ds : List D} {n : Nat} (h : ds.all (withinB 0 ((n : Int) - 1)) = true) : ds = (ds.map natOf).map natD ∧ ∀ k ∈ ds.map natOf, k < n := by
  constructor
  · rw [List.map_map]
    conv => lhs; rw [← List.map_id ds]
    refine List.map_congr_left fun d hd => ?_
    have := List.all_eq_true.mp h d hd
    cases d with
    | int i =>
      have h2 : (decide ((0 : Int) ≤ i) && decide (i ≤ (n : Int) - 1)) = true := this
      rw [Bool.and_eq_true, decide_eq_true_eq, decide_eq_true_eq] at h2
      show D.int i = D.int ((i.toNat : Nat) : Int)
      rw [Int.toNat_of_nonneg h2.1]
    | _ => cases this
  · intro k hk
    obtain ⟨d, hd, rfl⟩ := List.mem_map.mp hk
    have := List.all_eq_true.mp h d hd
    cases d with
    | int i =>
      have h2 : (decide ((0 : Int) ≤ i) && decide (i ≤ (n : Int) - 1)) = true := this
      rw [Bool.and_eq_true, decide_eq_true_eq, decide_eq_true_eq] at h2
      show i.toNat < n
      omega
    | _ => cases this
theorem Move.Ok.few {m : Mach} (hm : m.Ok) {v : Move} (h : v.Ok m 6) : v.s.Few ∧ v.g.Few := ⟨h.1.few hm, h.2.few hm⟩
/-- a way of a machine -/
theorem way_at {m : Mach} {k : Nat} (h : k < m.ways.length) : ∃ w, m.ways[k]? = some w ∧ atI (m.ways.map wayD) (k : Int) = some (wayD w) := ⟨_, List.getElem?_eq_getElem h, atI_nat (by rw [List.getElem?_map, List.getElem?_eq_getElem h]; rfl)⟩
theorem waysB_mem {m : Mach} {b : Nat → Bool} {k : Nat} (h : k ∈ waysB m b) : k < m.ways.length := List.mem_range.mp (List.mem_filter.mp h).1
theorem rangeD_nat (n : Nat) : rangeD 0 n = (List.range n).map natD := by
  unfold rangeD
  refine List.map_congr_left fun i _ => ?_
  show D.int (0 + (i : Int)) = D.int i
  rw [Int.zero_add]
theorem waysB_all (m : Mach) : waysB m (fun _ => true) = List.range m.ways.length := by
  unfold waysB
  simp
/-! some ways -/
def optW (m : Mach) : Option (Nat → Bool) → D
  | none => .non
  | some b => natT (waysB m b)
def bits (o : Option (Nat → Bool)) : Nat → Bool := o.getD fun _ => true
def spSomeWP : DSp := fun ds G Q _ => ∃ (m : Mach) (o : Option (Nat → Bool)), ds = [m.d, optW m o] ∧ m.ways.length ≤ 100 ∧ Q (natT (waysB m (bits o))) G
theorem len_someWP : LenS spSomeWP 2 := by rintro ds G Q xq ⟨m, o, rfl, _⟩; rfl
theorem body_someWP : Bod [] [] someWPC 2 spSomeWP := by
  rintro ds G Q xq ⟨m, o, rfl, hl, q⟩
  cases o with
  | none =>
    refine ⟨_, rfl, ⟨by omega, by rw [List.length_map]; omega⟩, ?_⟩
    rw [show bits none = fun _ => true from rfl, waysB_all] at q
    rw [List.length_map, show ((m.ways.length : Int)).toNat = m.ways.length by omega, rangeD_nat]
    exact q
  | some b => exact q
def spSomeWA : DSp := fun ds G Q _ => ∃ (p : Addr) (s : Pn) (G0 : Sto) (m : Mach), ds = [.ref p, m.d] ∧ G = put G0 p s.c ∧ m.ways.length ≤ 6 ∧ ∀ (o : Option (Nat → Bool)) (s' : Pn), Q (optW m o) (put G0 p s'.c)
theorem len_someWA : LenS spSomeWA 2 := by rintro ds G Q xq ⟨p, s, G0, m, rfl, _⟩; rfl
theorem body_someWA : Bod [spDraw] [] someWAC 4 spSomeWA := by
  rintro ds G Q xq ⟨p, s, G0, m, rfl, rfl, hl, q⟩
  refine ⟨p, s, 128, G0, rfl, rfl, by decide, by decide, fun r s1 h1 => ?_⟩
  refine ite2 (fun h => q none s1) (fun h => ?_)
  refine ⟨_, rfl, by omega, by rw [List.length_map]; omega, ?_⟩
  show lcS _ _ _ _ _ _ (rangeD 0 _) _ _
  rw [List.length_map, show ((m.ways.length : Int)).toNat = m.ways.length by omega, rangeD_nat]
  let bt : Nat → Bool := fun k => ((r : Int) / (2 ^ k : Nat) % 2 == 1)
  refine lc_filtA natD bt natD (xs := List.range m.ways.length) rfl (by rw [List.length_range]; exact Nat.lt_of_le_of_lt hl (by decide)) trivial (fun i k hk K N ha hb => ?_) (q (some bt) s1)
  have hk' : k < 6 := Nat.lt_of_lt_of_le (List.mem_range.mp (List.mem_of_getElem? hk)) hl
  have dv : ∀ j : Int, 1 ≤ j → j ≤ 32 → CDiv (r : Int) j ∨ CDivW (r : Int) j := fun j h1 h2 => divok h1 (by omega)
  refine ⟨sz3 6, ?_⟩
  match k, hk' with
  | 0, _ => exact ⟨_, rfl, dv 1 (by decide) (by decide), show (0 : Int) < 2 by decide, ite2 ha (fun h => hb (Bool.not_eq_true _ ▸ h))⟩
  | 1, _ => exact ⟨_, rfl, dv 2 (by decide) (by decide), show (0 : Int) < 2 by decide, ite2 ha (fun h => hb (Bool.not_eq_true _ ▸ h))⟩
  | 2, _ => exact ⟨_, rfl, dv 4 (by decide) (by decide), show (0 : Int) < 2 by decide, ite2 ha (fun h => hb (Bool.not_eq_true _ ▸ h))⟩
  | 3, _ => exact ⟨_, rfl, dv 8 (by decide) (by decide), show (0 : Int) < 2 by decide, ite2 ha (fun h => hb (Bool.not_eq_true _ ▸ h))⟩
  | 4, _ => exact ⟨_, rfl, dv 16 (by decide) (by decide), show (0 : Int) < 2 by decide, ite2 ha (fun h => hb (Bool.not_eq_true _ ▸ h))⟩
  | 5, _ => exact ⟨_, rfl, dv 32 (by decide) (by decide), show (0 : Int) < 2 by decide, ite2 ha (fun h => hb (Bool.not_eq_true _ ▸ h))⟩
/-! for each move its ways -/
def spWaysOf : DSp := fun ds G Q _ => ∃ (m : Mach) (vs : List Move) (b : Nat → Bool), ds = [m.d, movesR vs, natT (waysB m b)] ∧ m.Ok ∧ (∀ v ∈ vs, v.Ok m 6) ∧ vs.length ≤ 100 ∧ Q (.rl (vs.map fun v => natR (jnL m b v))) G
theorem len_waysOf : LenS spWaysOf 3 := by rintro ds G Q xq ⟨m, vs, b, rfl, _⟩; rfl
theorem jnL_eq (m : Mach) (b : Nat → Bool) (v : Move) : (joinsL m v.s.port v.g.port).filter (fun k => decide (k ∈ waysB m b)) = jnL m b v := by
  unfold joinsL jnL waysB
  rw [List.filter_filter, List.filter_filter]
  refine List.filter_congr fun k hk => ?_
  have e : decide (k ∈ (List.range m.ways.length).filter b) = b k := by
    cases hb : b k with
    | true => exact decide_eq_true (List.mem_filter.mpr ⟨hk, hb⟩)
    | false =>
      refine decide_eq_false fun z => ?_
      have := (List.mem_filter.mp z).2
      rw [hb] at this
      cases this
  rw [e]
  unfold mvJ
  exact Bool.and_comm _ _
theorem body_waysOf : Bod [sp_p_joined, sp_p_ports_of] [] waysOfC 8 spWaysOf := by
  rintro ds G Q xq ⟨m, vs, b, rfl, hm, hv, hl, q⟩
  have hw := hm.w2
  refine ⟨sz3 0, fun a fa => ?_⟩
  show forS _ _ _ _ _ _ _
  refine for_op (I := fun k ρ G1 => ∃ (x4 x5 x6 : Option D), ρ = [some m.d, some (movesR vs), some (natT (waysB m b)), some (.ref a), x4, x5, x6, none] ∧ G1 = put G a (.lst ((vs.take k).map fun v => natR (jnL m b v)))) ⟨none, none, none, rfl, rfl⟩ ?_ ?_
  · rintro i x hx ρ G1 E ⟨x4, x5, x6, rfl, rfl⟩ eN eC eR eB eX
    obtain ⟨v, hvi, rfl⟩ := get_map hx
    obtain ⟨f1, f2⟩ := (hv v (List.mem_of_getElem? hvi)).few hm
    refine ⟨trivial, v.s, v.g, rfl, f1, f2, rfl, ⟨rfl, _, put_same⟩, ?_⟩
    refine ⟨m, v.s.port, v.g.port, rfl, by omega, ?_⟩
    show lcS _ _ _ _ _ _ _ _ _
    refine lc_filtA natD (fun k => decide (k ∈ waysB m b)) natD (xs := joinsL m v.s.port v.g.port) rfl ?_ trivial (fun i k hk K N ha hb => ?_) ?_
    · refine Nat.lt_of_le_of_lt (m := 10) ?_ (by decide)
      exact Nat.le_trans (List.length_filter_le _ _) (by rw [List.length_range]; omega)
    · refine ⟨rfl, nats_flat _, ?_⟩
      rw [memF_nat]
      exact ite2 ha (fun h => hb (by simpa using h))
    · rw [jnL_eq]
      have hil := (List.getElem?_eq_some_iff.mp hvi).1
      refine ⟨_, put_same, ?_, ?_⟩
      · rw [List.length_map, List.length_take]
        exact Nat.lt_of_le_of_lt (m := 100) (by omega) (by decide)
      · rw [put_put]
        refine eN _ _ _ .refl ⟨_, _, _, rfl, ?_⟩
        rw [← take_snoc hvi, List.map_append]
        rfl
  · rintro ρ G1 ⟨x4, x5, x6, rfl, rfl⟩
    rw [List.length_map, List.take_length]
    refine ⟨trivial, a, _, rfl, put_same, ?_⟩
    rw [drop_put fa]
    exact q
end DL

namespace DL
open PySem PySem.Spec PyProof.Rows L2
/-! whether moves are carried, tried one after the other -/
def carryB (m : Mach) : List Move → List Nat → Bool
  | [], _ => true
  | v :: vs, ks => ks.any fun w => mvJ m v w && carryB m vs (ks.filter fun k => decide (k ≠ w))
def spCarry (n : Nat) : DSp := fun ds G Q _ => ∃ (m : Mach) (vs : List Move) (ks : List Nat), ds = [m.d, movesR vs, natR ks] ∧ vs.length < n ∧ m.Ok ∧ (∀ v ∈ vs, v.Ok m 6) ∧ (∀ k ∈ ks, k < m.ways.length) ∧ ks.length ≤ 100 ∧ Q (.bl (carryB m vs ks)) G
theorem len_carry (n : Nat) : LenS (spCarry n) 3 := by rintro ds G Q xq ⟨m, vs, ks, rfl, _⟩; rfl
theorem carry_0 {ds : List D} {G : Sto} {Q : DQ} {xq : XQ} (h : spCarry 0 ds G Q xq) : False := by
  obtain ⟨m, vs, ks, _, h, _⟩ := h
  omega
theorem ne_nat {k w : Nat} : (!((k : Int) == (w : Int))) = decide (k ≠ w) := by
  by_cases h : k = w
  · subst h
    simp
  · have : ((k : Int) == (w : Int)) = false := beq_eq_false_iff_ne.mpr (by omega)
    rw [this]
    exact (decide_eq_true h).symm
/-- begin in way[0] and end in way[1] -/
theorem body_carry (n : Nat) : Bod [spCarry n, sp_l_ports] [] carryAC 7 (spCarry (n + 1)) := by
  rintro ds G Q xq ⟨m, vs, ks, rfl, hn, hm, hv, hk, hl, q⟩
  cases vs with
  | nil => exact q
  | cons v vs =>
    obtain ⟨f1, f2⟩ := (hv v (by simp)).few hm
    refine ⟨v.d, atI_nat (j := 0) rfl, v.s, v.g, rfl, f1, f2, rfl, ?_⟩
    show forS _ _ _ _ _ _ _
    refine for_op (I := fun i ρ G1 => G1 = G ∧ ∃ (x3 : Option D), ρ = [some m.d, some (movesR (v :: vs)), some (natR ks), x3, some (.str v.s.port), some (.str v.g.port), none] ∧ ∀ w ∈ ks.take i, (mvJ m v w && carryB m vs (ks.filter fun k => decide (k ≠ w))) = false) ⟨rfl, none, rfl, fun w h => by simp at h⟩ ?_ ?_
    · rintro i x hx ρ G1 E ⟨rfl, x3, rfl, hI⟩ eN eC eR eB eX
      obtain ⟨w, hw, rfl⟩ := get_map hx
      have hwl := hk w (List.mem_of_getElem? hw)
      obtain ⟨wy, e1, e2⟩ := way_at hwl
      have ej : mvJ m v w = (decide (v.s.port ∈ wy.1) && decide (v.g.port ∈ wy.2)) := joinsAt_eq e1
      have no : (mvJ m v w && carryB m vs (ks.filter fun k => decide (k ≠ w))) = false → ∀ w' ∈ ks.take (i + 1), (mvJ m v w' && carryB m vs (ks.filter fun k => decide (k ≠ w'))) = false := by
        intro h w' hw'
        rw [← take_snoc hw] at hw'
        rcases List.mem_append.mp hw' with z | z
        · exact hI w' z
        · rw [List.mem_singleton] at z
          rw [z]
          exact h
      refine ⟨trivial, _, rfl, _, e2, _, rfl, rfl, strs_flat _, ?_⟩
      rw [memF_str]
      refine ite2 (fun h1 => ?_) (fun h1 => eN _ _ _ .refl ⟨rfl, _, rfl, no (by rw [ej, Bool.eq_false_iff.mpr h1]; rfl)⟩)
      refine ⟨_, rfl, _, e2, _, rfl, rfl, strs_flat _, ?_⟩
      rw [memF_str]
      refine ite2 (fun h2 => ?_) (fun h2 => eN _ _ _ .refl ⟨rfl, _, rfl, no (by rw [ej, Bool.eq_false_iff.mpr h2, Bool.and_false]; rfl)⟩)
      have hj : mvJ m v w = true := by rw [ej, h1, h2]; rfl
      show lcS _ _ _ _ _ _ _ _ _
      refine lc_filtA natD (fun k => decide (k ≠ w)) natD (xs := ks) rfl (Nat.lt_of_le_of_lt hl (by decide)) trivial (fun i2 k hk2 K N ha hb => ?_) ?_
      · show if (!((k : Int) == (w : Int))) = true then _ else _
        rw [ne_nat]
        exact ite2 ha (fun h => hb (Bool.eq_false_iff.mpr h))
      · have ec : cutD ((v :: vs).map Move.d) (some 1) none = vs.map Move.d := cut_lo (j := 1) _ (by simp)
        refine ⟨m, vs, ks.filter (fun k => decide (k ≠ w)), ?_, by rw [List.length_cons] at hn; omega, hm, fun u hu => hv u (by simp [hu]), fun k hk2 => hk k (List.mem_filter.mp hk2).1, Nat.le_trans (List.length_filter_le _ _) hl, ?_⟩
        · show [m.d, D.rl (cutD ((v :: vs).map Move.d) (some 1) none), D.rl _] = _
          rw [ec]
          rfl
        · refine ite2 (fun h3 => ?_) (fun h3 => eN _ _ _ .refl ⟨rfl, _, rfl, no (by rw [Bool.eq_false_iff.mpr h3, Bool.and_false])⟩)
          refine eR _ _ ?_
          have : carryB m (v :: vs) ks = true := List.any_eq_true.mpr ⟨w, List.mem_of_getElem? hw, by rw [hj, h3]; rfl⟩
          rw [this] at q
          exact q
    · rintro ρ G1 ⟨rfl, x3, rfl, hI⟩
      rw [List.length_map, List.take_length] at hI
      have : carryB m (v :: vs) ks = false := by
        unfold carryB
        exact List.any_eq_false.mpr fun w hw => Bool.eq_false_iff.mp (hI w hw)
      rw [this] at q
      exact ⟨trivial, q⟩
/-! moves drawn -/
def spMovesBy : DSp := fun ds G Q _ => ∃ (p : Addr) (s : Pn) (G0 : Sto) (m : Mach) (n : Nat), ds = [.ref p, m.d, .int n] ∧ G = put G0 p s.c ∧ m.Ok ∧ n ≤ 50 ∧ ∀ (vs : List Move) (s' : Pn), vs.length ≤ n → (∀ v ∈ vs, v.Ok m 6) → Q (movesR vs) (put G0 p s'.c)
theorem len_movesBy : LenS spMovesBy 3 := by rintro ds G Q xq ⟨p, s, G0, m, n, rfl, _⟩; rfl
set_option maxHeartbeats 0 in
theorem body_movesBy : Bod [spDraw, sp_l_ports, sp_l_move_by] [] movesAC 11 spMovesBy := by
  rintro ds G Q xq ⟨p, s, G0, m, n, rfl, rfl, hm, hn, q⟩
  refine ⟨p, s, _, G0, rfl, rfl, by omega, by omega, fun r s1 h1 => ?_⟩
  refine ⟨by omega, by omega, ?_⟩
  show lcS _ _ _ _ _ _ _ _ _
  refine lc_ix (I := fun k acc G1 => ∃ (vs : List Move) (s2 : Pn), acc = vs.map Move.d ∧ vs.length = k ∧ (∀ v ∈ vs, v.Ok m 6) ∧ G1 = put G0 p s2.c) 0 ⟨[], s1, rfl, rfl, by simp, rfl⟩ ?_ ?_
  · rintro i x hx acc G4 N ⟨vs, s2, rfl, hl, hv, rfl⟩ hN
    obtain ⟨hi, rfl⟩ := get_range hx
    refine ⟨trivial, p, s2, G0, m, 6, rfl, rfl, hm, by decide, by decide, fun v s3 hv3 => ?_⟩
    refine ⟨by rw [List.length_map]; exact Nat.lt_of_le_of_lt (show _ ≤ 100 by omega) (by decide), hN _ _ ⟨vs ++ [v], s3, ?_, by simp [hl], ?_, rfl⟩⟩
    · rw [List.map_append]
      rfl
    · intro u hu
      rcases List.mem_append.mp hu with z | z
      · exact hv u z
      · rw [List.mem_singleton] at z
        rw [z]
        exact hv3
  · rintro acc G4 ⟨vs, s2, rfl, hl, hv, rfl⟩
    rw [rangeD_len, Nat.zero_add] at hl
    have hl' : vs.length ≤ n := by omega
    refine ⟨trivial, p, s2, 2, G0, rfl, rfl, by decide, by decide, fun r3 s3 h3 => ?_⟩
    refine ite2 (fun h => q vs s3 hl' hv) (fun h => ?_)
    refine ⟨sz3 0, fun a fa => ?_⟩
    have hap : a ≠ p := fun z => by subst z; rw [put_same] at fa; cases fa
    have fa0 : G0 a = none := by rw [put_ne hap] at fa; exact fa
    have atA : ∀ {u v : Cl}, put (put G0 a u) p v a = some u := fun {u v} => by rw [put_ne hap]; exact put_same
    rw [put_comm (Ne.symm hap)]
    show forS _ _ _ _ _ _ _
    refine for_op (I := fun k ρ G1 => ∃ (us : List Move) (s4 : Pn) (x5 x6 x8 x9 : Option D), us.Sublist (vs.take k) ∧ G1 = put (put G0 a (.lst (us.map Move.d))) p s4.c ∧ ρ = [some (.ref p), some m.d, some (.int n), some (movesR vs), some (.ref a), x5, x6, none, x8, x9, none]) ⟨[], s3, _, _, _, _, by simp, rfl, rfl⟩ ?_ ?_
    · rintro i x hx ρ G1 E ⟨us, s4, x5, x6, x8, x9, hs, rfl, rfl⟩ eN eC eR eB eX
      obtain ⟨v, hvi, rfl⟩ := get_map hx
      obtain ⟨f1, f2⟩ := (hv v (List.mem_of_getElem? hvi)).few hm
      have hul : us.length ≤ vs.length := Nat.le_trans hs.length_le (List.length_take_le' _ _)
      refine ⟨trivial, v.s, v.g, rfl, f1, f2, rfl, _, rfl, ?_⟩
      show lcS _ _ _ _ _ _ _ _ _
      refine lc_filtA wayD (joinB v.s.port v.g.port) wayD (xs := m.ways) rfl (Nat.lt_of_le_of_lt (Nat.le_trans hm.w2 (by decide)) (show 100 < sizeLine by decide)) trivial (fun i2 w hw K N ha hb => ?_) ?_
      · unfold joinB at ha hb
        refine ⟨_, rfl, rfl, strs_flat _, ?_⟩
        rw [memF_str]
        refine ite2 (fun h1 => ?_) (fun h1 => ?_)
        · refine ⟨_, rfl, rfl, strs_flat _, ?_⟩
          rw [memF_str]
          rw [h1] at ha hb
          exact ite2 (fun h2 => ha (by rw [h2]; rfl)) (fun h2 => hb (by rw [Bool.eq_false_iff.mpr h2]; rfl))
        · exact hb (by rw [Bool.eq_false_iff.mpr h1]; rfl)
      · have add : ∀ s5 : Pn, denB [spDraw, sp_l_ports, sp_l_move_by] [] (.cons (.expr (.mt .append (.var 4) (.cons (.var 5) .nil))) .nil) { nx := E.nx, rt := E.rt, bk := E.bk, ct := E.ct, ex := E.ex } [some (.ref p), some m.d, some (.int n), some (movesR vs), some (.ref a), some v.d, some (.rl ((m.ways.filter (joinB v.s.port v.g.port)).map wayD)), none, some (.str v.s.port), some (.str v.g.port), none] (put (put G0 a (.lst (us.map Move.d))) p s5.c) := by
          intro s5
          refine ⟨⟨rfl, _, atA⟩, _, atA, by rw [List.length_map]; exact Nat.lt_of_le_of_lt (show _ ≤ 100 by omega) (by decide), ?_⟩
          rw [put_mid2 hap]
          refine eN _ _ _ .refl ⟨us ++ [v], s5, _, _, _, _, sub_snoc hs hvi, ?_, rfl⟩
          rw [List.map_append]
          rfl
        refine ite2 (fun h1 => add s4) (fun h1 => ?_)
        refine ⟨p, s4, 6, _, rfl, rfl, by decide, by decide, fun r5 s5 h5 => ?_⟩
        refine ite2 (fun h2 => add s5) (fun h2 => ?_)
        exact eN _ _ _ .refl ⟨us, s5, _, _, _, _, sub_step hs, rfl, rfl⟩
    · rintro ρ G1 ⟨us, s4, x5, x6, x8, x9, hs, rfl, rfl⟩
      rw [List.length_map, List.take_length] at hs
      refine ⟨trivial, a, _, rfl, atA, ?_⟩
      rw [put_comm hap, drop_put (by rw [put_ne hap]; exact fa0)]
      exact q us s4 (Nat.le_trans hs.length_le hl') fun v hv2 => hv v (hs.subset hv2)
end DL

namespace DL
open PySem PySem.Spec PyProof.Rows L2
theorem pw_snoc {l : List Nat} {x y : Nat} {i : Nat} (h : l.Pairwise (· < ·)) (hy : l[i]? = some y) (hi : i + 1 = l.length) (hxy : y < x) : (l ++ [x]).Pairwise (· < ·) := by
  rw [List.pairwise_append]
  refine ⟨h, by simp, fun a ha b hb => ?_⟩
  rw [List.mem_singleton] at hb
  subst hb
  obtain ⟨j, hj⟩ := List.getElem?_of_mem ha
  have hjl := (List.getElem?_eq_some_iff.mp hj).1
  by_cases e : j = i
  · subst e
    rw [hy] at hj
    cases hj
    exact hxy
  · have := List.pairwise_iff_getElem.mp h j i hjl (by omega) (by omega)
    have e1 := (List.getElem?_eq_some_iff.mp hj).2
    have e2 := (List.getElem?_eq_some_iff.mp hy).2
    omega
theorem pw_not {l : List Nat} {i x y : Nat} (hx : l[i]? = some x) (hy : l[i + 1]? = some y) (h : y ≤ x) : ¬ l.Pairwise (· < ·) := fun z => by
  have h1 := (List.getElem?_eq_some_iff.mp hx).1
  have h2 := (List.getElem?_eq_some_iff.mp hy).1
  have := List.pairwise_iff_getElem.mp z i (i + 1) h1 h2 (by omega)
  have e1 := (List.getElem?_eq_some_iff.mp hx).2
  have e2 := (List.getElem?_eq_some_iff.mp hy).2
  omega
/-- what is asked of a tuple of places -/
def restB (m : Mach) (vs : List Move) (b : Nat → Bool) (ks : List Nat) : Bool := decide (ks.Pairwise (· < ·)) && decide ((metL m b (pick vs ks)).length < ks.length)
theorem shownB_all {m : Mach} {vs : List Move} {b : Nat → Bool} {ds : List D} (h : ds.all (withinB 0 ((vs.length : Int) - 1)) = true) : shownB m vs b (.tup ds) = restB m vs b (ds.map natOf) := by
  show (_ && _) = _
  rw [h, Bool.true_and]
  unfold restB
  rw [List.length_map]
theorem shownB_not {m : Mach} {vs : List Move} {b : Nat → Bool} {ds : List D} (h : ds.all (withinB 0 ((vs.length : Int) - 1)) = false) : shownB m vs b (.tup ds) = false := by
  show (_ && _) = _
  rw [h, Bool.false_and]
abbrev FS : List DSp := [sp_l_ports, spWhole]
def spShown : DSp := fun ds G Q _ => ∃ (m : Mach) (vs : List Move) (b : Nat → Bool) (d : D), ds = [m.d, movesR vs, natR (waysB m b), d] ∧ m.Ok ∧ (∀ v ∈ vs, v.Ok m 6) ∧ vs.length ≤ 100 ∧ thB d = true ∧ Q (.bl (shownB m vs b d)) G
theorem len_shown : LenS spShown 4 := by rintro ds G Q xq ⟨m, vs, b, d, rfl, _⟩; rfl
theorem all_map {ds : List D} {f : D → Bool} : (ds.map f).all id = ds.all f := by
  rw [List.all_map]
  rfl
set_option maxHeartbeats 0 in
theorem body_shown : Bod FS [] shownAC 11 spShown := by
  rintro ds G Q xq ⟨m, vs, b, d, rfl, hm, hv, hl, hd, q⟩
  have hw2 := hm.w2
  -- the loop
  have loop : ∀ (ks : List Nat) (x6 : Option D), (∀ k ∈ ks, k < vs.length) → ks.length ≤ 40 → Q (.bl (restB m vs b ks)) G → denB FS [] (shownAC.drop 1) (Fin0 Q xq) [some m.d, some (movesR vs), some (natR (waysB m b)), some (natT ks), none, none, x6, none, none, none, none] G := by
    intro ks x6 hk hkl q
    refine ⟨sz3 0, ?_⟩
    show forS _ _ _ _ (enumD (ks.map natD)) _ _
    refine for_op (I := fun i ρ G1 => G1 = G ∧ (ks.take i).Pairwise (· < ·) ∧ ∃ (x5 x6 x7 x8 x9 : Option D), ρ = [some m.d, some (movesR vs), some (natR (waysB m b)), some (natT ks), some (natR (metL m b (pick vs (ks.take i)))), x5, x6, x7, x8, x9, none]) ⟨rfl, by simp, _, _, _, _, _, rfl⟩ ?_ ?_
    · rintro i y hy ρ G1 E ⟨rfl, hP, x5, x6, x7, x8, x9, rfl⟩ eN eC eR eB eX
      obtain ⟨d, hd, rfl⟩ := enum_get hy
      obtain ⟨k, hki, rfl⟩ := get_map hd
      have hil := (List.getElem?_eq_some_iff.mp hki).1
      have hkv := hk k (List.mem_of_getElem? hki)
      obtain ⟨v, hvk⟩ : ∃ v, vs[k]? = some v := ⟨_, List.getElem?_eq_getElem hkv⟩
      have hat : atI (vs.map Move.d) (k : Int) = some v.d := atI_nat (by rw [List.getElem?_map, hvk]; rfl)
      obtain ⟨f1, f2⟩ := (hv v (List.mem_of_getElem? hvk)).few hm
      have hml := metL_len m b (pick vs (ks.take i))
      have hpl := pick_len vs (ks.take i)
      have htl : (ks.take i).length ≤ 40 := by rw [List.length_take]; omega
      have hm40 : (metL m b (pick vs (ks.take i))).length ≤ 240 := Nat.le_trans hml (Nat.le_trans (Nat.mul_le_mul hw2 (Nat.le_trans hpl htl)) (by decide))
      -- behind the look at the place ahead
      have go : (ks.take (i + 1)).Pairwise (· < ·) → denB FS [] (.cons (.asg (.tup 2 (.cons (.name 8) (.cons (.name 9) .nil))) (.fn 0 (.cons (.ix (.var 1) (.var 6)) .nil))) (.cons (.setLcv 7 [("_law_way", 10)] (.name 10) (.it (.var 2)) (.one (.and (.cmp .In (.var 8) (.ix (.ix (.ix (.var 0) (.int 3)) (.var 10)) (.int 0))) (.cmp .In (.var 9) (.ix (.ix (.ix (.var 0) (.int 3)) (.var 10)) (.int 1))))) (.var 10)) (.cons (.asg (.name 4) (.addv (.var 4) (.lcv [("_law_way", 10)] (.name 10) (.it (.var 7)) (.one (.cmp .NotIn (.var 10) (.var 4))) (.var 10)))) .nil))) E [some m.d, some (movesR vs), some (natR (waysB m b)), some (natT ks), some (natR (metL m b (pick vs (ks.take i)))), some (natD i), some (natD k), x7, x8, x9, none] G1 := by
        intro hP2
        refine ⟨_, hat, v.s, v.g, rfl, f1, f2, rfl, ?_⟩
        show lcS _ _ _ _ _ _ _ _ _
        refine lc_filtA natD (mvJ m v) natD (xs := waysB m b) rfl (Nat.lt_of_le_of_lt (Nat.le_trans (waysB_len m b) (Nat.le_trans hw2 (by decide))) (show 100 < sizeLine by decide)) trivial (fun i2 w hw K N ha hb => ?_) ?_
        · obtain ⟨wy, e1, e2⟩ := way_at (waysB_mem (List.mem_of_getElem? hw))
          have ej : mvJ m v w = (decide (v.s.port ∈ wy.1) && decide (v.g.port ∈ wy.2)) := joinsAt_eq e1
          rw [ej] at ha hb
          refine ⟨_, rfl, _, e2, _, rfl, rfl, strs_flat _, ?_⟩
          rw [memF_str]
          refine ite2 (fun h1 => ?_) (fun h1 => hb (by rw [Bool.eq_false_iff.mpr h1]; rfl))
          refine ⟨_, rfl, _, e2, _, rfl, rfl, strs_flat _, ?_⟩
          rw [memF_str]
          rw [h1] at ha hb
          exact ite2 (fun h2 => ha (by rw [h2]; rfl)) (fun h2 => hb (by rw [Bool.eq_false_iff.mpr h2]; rfl))
        · show lcS _ _ _ _ _ _ _ _ _
          refine lc_filtA natD (fun k => !decide (k ∈ metL m b (pick vs (ks.take i)))) natD (xs := jnL m b v) rfl (Nat.lt_of_le_of_lt (Nat.le_trans (jnL_len m b v) (Nat.le_trans hw2 (by decide))) (show 100 < sizeLine by decide)) trivial (fun i2 w hw K N ha hb => ?_) ?_
          · refine ⟨rfl, nats_flat _, ?_⟩
            rw [memF_nat]
            exact ite2 ha (fun h => hb (Bool.eq_false_iff.mpr h))
          · have hs := metS_len m b (metL m b (pick vs (ks.take i))) v
            unfold metS at hs
            rw [List.length_append] at hs
            refine ⟨by rw [List.length_map, List.length_map]; exact Nat.le_trans (m := 1000) (by omega) (by decide), ?_⟩
            refine eN _ _ _ .refl ⟨rfl, hP2, some (natD i), some (natD k), some (natR (jnL m b v)), some (.str v.s.port), some (.str v.g.port), congrArg (fun z => [some m.d, some (movesR vs), some (natR (waysB m b)), some (natT ks), some (D.rl z), some (natD i), some (natD k), some (natR (jnL m b v)), some (.str v.s.port), some (.str v.g.port), none]) ?_⟩
            rw [← take_snoc hki, pick_snoc hvk, metL_snoc, map_appN]
            rfl
      refine ⟨trivial, rfl, ?_⟩
      refine ite2 (fun h0 => ?_) (fun h0 => ?_)
      · have h0' := of_decide_eq_true h0
        obtain ⟨j, rfl⟩ : ∃ j, i = j + 1 := ⟨i - 1, by omega⟩
        have hjl : j < ks.length := by omega
        have hj : atI (ks.map natD) (((j + 1 : Nat) : Int) - 1) = some (natD ks[j]) := by
          rw [show ((j + 1 : Nat) : Int) - 1 = (j : Int) by omega]
          exact atI_nat (by rw [List.getElem?_map, List.getElem?_eq_getElem hjl]; rfl)
        refine ⟨_, hj, ?_⟩
        refine ite2 (fun h1 => ?_) (fun h1 => ?_)
        · have h1' := of_decide_eq_true h1
          have hb : restB m vs b ks = false := by
            unfold restB
            rw [decide_eq_false (pw_not (List.getElem?_eq_getElem hjl) hki (by omega)), Bool.false_and]
          rw [hb] at q
          exact eR _ _ q
        · have h1' : ¬ ((ks[j] : Int) ≥ (k : Int)) := fun z => h1 (decide_eq_true z)
          refine go ?_
          rw [← take_snoc hki]
          refine pw_snoc (i := j) hP ?_ ?_ (show ks[j] < k by omega)
          · rw [List.getElem?_take, if_pos (by omega), List.getElem?_eq_getElem hjl]
          · rw [List.length_take]
            omega
      · have h0' : ¬ ((i : Int) > 0) := fun z => h0 (decide_eq_true z)
        have : i = 0 := by omega
        subst this
        refine go ?_
        rw [← take_snoc hki]
        simp
    · rintro ρ G1 ⟨rfl, hP, x5, x6, x7, x8, x9, rfl⟩
      rw [enumD_len, List.length_map, List.take_length] at hP ⊢
      refine ⟨trivial, ?_⟩
      have hb : restB m vs b ks = decide ((((metL m b (pick vs ks)).map natD).length : Int) < ((ks.map natD).length : Int)) := by
        unfold restB
        rw [decide_eq_true hP, Bool.true_and, List.length_map, List.length_map]
        exact decide_eq_decide.mpr (by omega)
      rw [hb] at q
      exact q
  -- whether it is a tuple of places
  cases d with
  | tup ds =>
    refine ⟨_, rfl, ?_⟩
    have hd2 : (ds.all th0 && decide (ds.length ≤ 40)) = true := hd
    rw [Bool.and_eq_true, decide_eq_true_eq] at hd2
    show lcS _ _ _ _ _ _ _ _ _
    refine lc_mapA id (fun x => .bl (withinB 0 ((vs.length : Int) - 1) x)) (xs := ds) (by rw [List.map_id]) (Nat.lt_of_le_of_lt hd2.2 (by decide)) trivial (fun i x hx K k => ?_) ?_
    · refine ⟨x, rfl, List.all_eq_true.mp hd2.1 x (List.mem_of_getElem? hx), ?_⟩
      cases e : wholeB x with
      | false =>
        rw [within_not e] at k
        exact k
      | true =>
        cases x with
        | int i =>
          have k : K (.bl (decide ((0 : Int) ≤ i) && decide (i ≤ (vs.length : Int) - 1))) G := k
          refine ite2 (fun h1 => ?_) (fun h1 => ?_)
          · rw [h1, Bool.true_and] at k
            have ed : decide (i ≤ (vs.length : Int) - 1) = decide (i < ((vs.map Move.d).length : Int)) := by
              rw [List.length_map]
              exact decide_eq_decide.mpr (by omega)
            rw [ed] at k
            exact k
          · rw [Bool.eq_false_iff.mpr h1] at k
            exact k
        | _ => cases e
    · refine ⟨ds.map (withinB 0 ((vs.length : Int) - 1)), by rw [List.map_map]; rfl, ?_⟩
      rw [all_map]
      cases ha : ds.all (withinB 0 ((vs.length : Int) - 1)) with
      | false =>
        rw [shownB_not ha] at q
        exact q
      | true =>
        rw [shownB_all ha] at q
        obtain ⟨e1, e2⟩ := nats_of ha
        have := loop (ds.map natOf) none e2 (by rw [List.length_map]; exact hd2.2) q
        unfold natT at this
        rw [← e1] at this
        exact this
  | non => exact ⟨_, rfl, q⟩
  | bl b => exact ⟨_, rfl, q⟩
  | int i => exact ⟨_, rfl, q⟩
  | str x => exact ⟨_, rfl, q⟩
  | rl x => exact ⟨_, rfl, q⟩
  | rd x y => exact ⟨_, rfl, q⟩
  | ty _ => cases hd
  | sc _ => cases hd
  | ref _ => cases hd
end DL

namespace DL
open PySem PySem.Spec PyProof.Rows L2
theorem ints_ok (ns : List Int) (n : Nat) : okDs n (ns.map D.int) = true := by
  rw [okDs_mem]
  intro d hd
  obtain ⟨t, ht, rfl⟩ := List.mem_map.mp hd
  rfl
theorem eqvAll_ints : ∀ xs ys : List Int, PyData.eqvAll (pyDs (xs.map D.int)) (pyDs (ys.map D.int)) = decide (xs = ys)
  | [], [] => rfl
  | [], y :: ys => rfl
  | x :: xs, [] => rfl
  | x :: xs, y :: ys => by
    have ih := eqvAll_ints xs ys
    rw [List.map_cons, List.map_cons]
    unfold pyDs PyData.eqvAll
    rw [ih]
    show ((x == y) && decide (xs = ys)) = _
    by_cases h : x = y
    · subst h
      simp
    · simp [h]
theorem ne_rl {xs ys : List D} {G : Sto} {Q : DQ} {n : Nat} (hx : okDs n xs = true) (hy : okDs n ys = true) (hn : n ≤ 63) (q : Q (.bl (!PyData.eqvAll (pyDs xs) (pyDs ys))) G) : neD (.rl xs) (.rl ys) G Q := by
  cases ys with
  | nil =>
    rw [eqvAll_nil] at q
    exact q
  | cons y ys => exact ⟨_, _, .rl (okDs_dd hx).1, .rl (okDs_dd hy).1, shaped_of (d := .rl xs) (n := n + 1) hx (by omega), shaped_of (d := .rl (y :: ys)) (n := n + 1) hy (by omega), q⟩
theorem ne_ints {xs ys : List Int} {G : Sto} {Q : DQ} (q : Q (.bl (!decide (xs = ys))) G) : neD (.rl (xs.map D.int)) (.rl (ys.map D.int)) G Q := by
  refine ne_rl (n := 1) (ints_ok _ _) (ints_ok _ _) (by decide) ?_
  rw [eqvAll_ints]
  exact q
def intsN (ks : List Nat) : List Int := ks.map fun k : Nat => (k : Int)
theorem intsN_d (ks : List Nat) : ks.map natD = (intsN ks).map D.int := by
  unfold intsN
  rw [List.map_map]
  rfl
theorem inc_nats {ks : List Nat} : Inc ltI (intsN ks) ↔ ks.Pairwise (· < ·) := by
  unfold Inc intsN
  rw [List.pairwise_map]
  constructor
  · exact fun h => h.imp fun {a b} z => by
      have := of_decide_eq_true (show decide ((a : Int) < (b : Int)) = true from z)
      omega
  · exact fun h => h.imp fun {a b} z => by
      show decide ((a : Int) < (b : Int)) = true
      exact decide_eq_true (by omega)
theorem srt_nats (ks : List Nat) : (!decide (intsN ks = srtO ltI (intsN ks))) = !decide (ks.Pairwise (· < ·)) := by
  congr 1
  refine decide_eq_decide.mpr ⟨fun h => ?_, fun h => (srtO_self linI (inc_nats.mpr h)).symm⟩
  rw [← inc_nats, h]
  exact inc_srtO linI
abbrev FT : List DSp := [spWaysOf, spSomeWP, spWithin]
def spStuck : DSp := fun ds G Q _ => ∃ (m : Mach) (vs : List Move) (o : Option (Nat → Bool)) (d : D), ds = [m.d, movesR vs, optW m o, d] ∧ m.Ok ∧ (∀ v ∈ vs, v.Ok m 6) ∧ vs.length ≤ 100 ∧ thB d = true ∧ Q (.bl (shownB m vs (bits o) d)) G
theorem len_stuck : LenS spStuck 4 := by rintro ds G Q xq ⟨m, vs, b, d, rfl, _⟩; rfl
theorem pick_map {vs : List Move} : ∀ {ks : List Nat}, (∀ k ∈ ks, k < vs.length) → (pick vs ks).map Move.d = ks.map (pickD Move.d vs)
  | [], _ => rfl
  | k :: ks, h => by
    have hk := h k (by simp)
    have ih := pick_map (vs := vs) (ks := ks) fun j hj => h j (by simp [hj])
    unfold pick at ih ⊢
    rw [List.filterMap_cons, List.getElem?_eq_getElem hk, List.map_cons, List.map_cons, ih, pickD_eq (List.getElem?_eq_getElem hk)]
set_option maxHeartbeats 0 in
theorem body_stuck : Bod FT [] stuckShownC 9 spStuck := by
  rintro ds G Q xq ⟨m, vs, o, d, rfl, hm, hv, hl, hd, q⟩
  have hw2 := hm.w2
  -- behind the first test
  have rest : ∀ (ks : List Nat), (∀ k ∈ ks, k < vs.length) → ks.length ≤ 40 → Q (.bl (restB m vs (bits o) ks)) G → denB FT [] (stuckShownC.drop 1) (Fin0 Q xq) [some m.d, some (movesR vs), some (optW m o), some (natT ks), none, none, none, none, none] G := by
    intro ks hk hkl q
    refine .inl ⟨intsN ks, intsN_d ks, ?_, ?_, ?_⟩
    · unfold intsN
      rw [List.length_map]
      omega
    · have := srtO_len linI (l := intsN ks)
      have e : (intsN ks).length = ks.length := by unfold intsN; rw [List.length_map]
      omega
    rw [intsN_d ks]
    refine ne_ints ?_
    rw [srt_nats]
    by_cases hP : ks.Pairwise (· < ·)
    · refine iteN (by rw [decide_eq_true hP]; rfl) ?_
      show lcS _ _ _ _ _ _ _ _ _
      refine lc_mapA natD (pickD Move.d vs) (xs := ks) rfl (Nat.lt_of_le_of_lt hkl (by decide)) trivial (fun i k hki K kk => ?_) ?_
      · have hkv := hk k (List.mem_of_getElem? hki)
        rw [pickD_eq (List.getElem?_eq_getElem hkv)] at kk
        exact ⟨_, atI_nat (by rw [List.getElem?_map, List.getElem?_eq_getElem hkv]; rfl), kk⟩
      rw [← pick_map hk]
      have hpl := pick_len vs ks
      refine ⟨m, o, rfl, by omega, m, pick vs ks, bits o, rfl, hm, fun v hv2 => ?_, by omega, ?_⟩
      · obtain ⟨k, _, e⟩ := List.mem_filterMap.mp hv2
        exact hv v (List.mem_of_getElem? e)
      refine ⟨sz3 0, fun a fa => ?_⟩
      show forS _ _ _ _ _ _ _
      refine for_op (I := fun i ρ G1 => ∃ (x6 : Option D), ρ = [some m.d, some (movesR vs), some (optW m o), some (natT ks), some (.rl ((pick vs ks).map fun v => natR (jnL m (bits o) v))), some (.ref a), x6, none, none] ∧ G1 = put G a (.lst ((metL m (bits o) ((pick vs ks).take i)).map natD))) ⟨none, rfl, rfl⟩ ?_ ?_
      · rintro i x hx ρ G1 E ⟨x6, rfl, rfl⟩ eN eC eR eB eX
        obtain ⟨v, hvi, rfl⟩ := get_map hx
        have hml := metL_len m (bits o) ((pick vs ks).take i)
        have htl : ((pick vs ks).take i).length ≤ 40 := by rw [List.length_take]; omega
        have hm40 : (metL m (bits o) ((pick vs ks).take i)).length ≤ 240 := Nat.le_trans hml (Nat.le_trans (Nat.mul_le_mul hw2 htl) (by decide))
        refine ⟨trivial, ⟨rfl, _, put_same⟩, ?_⟩
        show lcS _ _ _ _ _ _ _ _ _
        refine lc_filtA natD (fun k => !decide (k ∈ metL m (bits o) ((pick vs ks).take i))) natD (xs := jnL m (bits o) v) rfl (Nat.lt_of_le_of_lt (Nat.le_trans (jnL_len m (bits o) v) (Nat.le_trans hw2 (by decide))) (show 100 < sizeLine by decide)) trivial (fun i2 w hw K N ha hb => ?_) ?_
        · refine .inl ⟨_, put_same, rfl, nats_flat _, ?_⟩
          rw [memF_nat]
          exact ite2 ha (fun h => hb (Bool.eq_false_iff.mpr h))
        · have hs := metS_len m (bits o) (metL m (bits o) ((pick vs ks).take i)) v
          unfold metS at hs
          rw [List.length_append] at hs
          refine ⟨_, put_same, by rw [List.length_map, List.length_map]; exact Nat.le_trans (m := 1000) (by omega) (by decide), ?_⟩
          rw [put_put]
          refine eN _ _ _ .refl ⟨_, rfl, ?_⟩
          rw [← take_snoc hvi, metL_snoc, map_appN]
          rfl
      · rintro ρ G1 ⟨x6, rfl, rfl⟩
        rw [List.length_map, List.take_length]
        refine ⟨trivial, a, _, rfl, put_same, ?_⟩
        rw [drop_put fa]
        have hb : restB m vs (bits o) ks = decide ((((metL m (bits o) (pick vs ks)).map natD).length : Int) < ((ks.map natD).length : Int)) := by
          unfold restB
          rw [decide_eq_true hP, Bool.true_and, List.length_map, List.length_map]
          exact decide_eq_decide.mpr (by omega)
        rw [hb] at q
        exact q
    · refine iteY (by rw [decide_eq_false hP]; rfl) ?_
      have hb : restB m vs (bits o) ks = false := by
        unfold restB
        rw [decide_eq_false hP, Bool.false_and]
      rw [hb] at q
      exact q
  cases d with
  | tup ds =>
    refine ⟨_, rfl, ?_⟩
    have hd2 : (ds.all th0 && decide (ds.length ≤ 40)) = true := hd
    rw [Bool.and_eq_true, decide_eq_true_eq] at hd2
    show lcS _ _ _ _ _ _ _ _ _
    refine lc_mapA id (fun x => .bl (withinB 0 ((vs.length : Int) - 1) x)) (xs := ds) (by rw [List.map_id]) (Nat.lt_of_le_of_lt hd2.2 (by decide)) trivial (fun i x hx K k => ?_) ?_
    · refine ⟨x, 0, _, rfl, List.all_eq_true.mp hd2.1 x (List.mem_of_getElem? hx), ?_⟩
      rw [List.length_map]
      exact k
    · refine ⟨ds.map (withinB 0 ((vs.length : Int) - 1)), by rw [List.map_map]; rfl, ?_⟩
      rw [all_map]
      cases ha : ds.all (withinB 0 ((vs.length : Int) - 1)) with
      | false =>
        rw [shownB_not ha] at q
        exact q
      | true =>
        rw [shownB_all ha] at q
        obtain ⟨e1, e2⟩ := nats_of ha
        have := rest (ds.map natOf) e2 (by rw [List.length_map]; exact hd2.2) q
        unfold natT at this
        rw [← e1] at this
        exact this
  | non => exact ⟨_, rfl, q⟩
  | bl b => exact ⟨_, rfl, q⟩
  | int i => exact ⟨_, rfl, q⟩
  | str x => exact ⟨_, rfl, q⟩
  | rl x => exact ⟨_, rfl, q⟩
  | rd x y => exact ⟨_, rfl, q⟩
  | ty _ => cases hd
  | sc _ => cases hd
  | ref _ => cases hd
end DL

namespace DL
open PySem PySem.Spec PyProof.Rows L2
/-! what shows too few ways: no ways carry all moves then -/
theorem carry_ws {m : Mach} : ∀ {vs : List Move} {ks : List Nat}, carryB m vs ks = true → ∃ ws : List Nat, ws.length = vs.length ∧ ws.Nodup ∧ (∀ w ∈ ws, w ∈ ks) ∧ ∀ (i : Nat) (v : Move) (w : Nat), vs[i]? = some v → ws[i]? = some w → mvJ m v w = true
  | [], ks, _ => ⟨[], rfl, List.nodup_nil, fun w h => by simp at h, fun i v w h => by simp at h⟩
  | v :: vs, ks, h => by
    unfold carryB at h
    obtain ⟨w, hw, h⟩ := List.any_eq_true.mp h
    rw [Bool.and_eq_true] at h
    obtain ⟨ws, h1, h2, h3, h4⟩ := carry_ws h.2
    refine ⟨w :: ws, by simp [h1], List.nodup_cons.mpr ⟨fun z => ?_, h2⟩, fun u hu => ?_, fun i v' w' hv hw' => ?_⟩
    · have := (List.mem_filter.mp (h3 w z)).2
      simp at this
    · rcases List.mem_cons.mp hu with rfl | hu
      · exact hw
      · exact (List.mem_filter.mp (h3 u hu)).1
    · cases i with
      | zero =>
        simp at hv hw'
        subst hv hw'
        exact h.1
      | succ i => exact h4 i v' w' (by simpa using hv) (by simpa using hw')
theorem mem_met {m : Mach} {b : Nat → Bool} {w : Nat} : ∀ (us : List Move) (acc : List Nat), (w ∈ acc ∨ ∃ u ∈ us, w ∈ jnL m b u) → w ∈ us.foldl (metS m b) acc
  | [], acc, h => by
    rcases h with h | ⟨u, hu, _⟩
    · exact h
    · simp at hu
  | u :: us, acc, h => by
    rw [List.foldl_cons]
    refine mem_met us _ ?_
    unfold metS
    rcases h with h | ⟨v, hv, hw⟩
    · exact .inl (List.mem_append_left _ h)
    · rcases List.mem_cons.mp hv with rfl | hv
      · by_cases ha : w ∈ acc
        · exact .inl (List.mem_append_left _ ha)
        · exact .inl (List.mem_append_right _ (List.mem_filter.mpr ⟨hw, by simp [ha]⟩))
      · exact .inr ⟨v, hv, hw⟩
theorem not_carried {m : Mach} {vs : List Move} {b : Nat → Bool} {d : D} (h : shownB m vs b d = true) : carryB m vs (waysB m b) = false := by
  refine Bool.eq_false_iff.mpr fun hc => ?_
  obtain ⟨ws, w1, w2, w3, w4⟩ := carry_ws hc
  cases d with
  | tup ds =>
    have ha : ds.all (withinB 0 ((vs.length : Int) - 1)) = true := by
      cases e : ds.all (withinB 0 ((vs.length : Int) - 1)) with
      | true => rfl
      | false =>
        rw [shownB_not e] at h
        cases h
    rw [shownB_all ha] at h
    obtain ⟨_, hk⟩ := nats_of ha
    revert hk h
    generalize ds.map natOf = ks
    intro h hk
    unfold restB at h
    rw [Bool.and_eq_true, decide_eq_true_eq, decide_eq_true_eq] at h
    obtain ⟨hP, hlt⟩ := h
    have hnd : ks.Nodup := hP.imp fun {a b} z e => by omega
    have : ks.length ≤ (metL m b (pick vs ks)).length := by
      have e : (ks.map fun k => ws.getD k 0).length = ks.length := List.length_map ..
      rw [← e]
      refine List.Nodup.length_le_of_subset ?_ fun w hw => ?_
      · refine List.pairwise_map.mpr ?_
        refine List.Pairwise.imp_of_mem ?_ hnd
        intro a b ha hb hne e
        have la := hk a ha
        have lb := hk b hb
        rw [← w1] at la lb
        rw [List.getD_eq_getElem?_getD, List.getD_eq_getElem?_getD, List.getElem?_eq_getElem la, List.getElem?_eq_getElem lb] at e
        exact hne ((List.getElem_inj w2).mp e)
      · obtain ⟨k, hk2, rfl⟩ := List.mem_map.mp hw
        have lk := hk k hk2
        have lw := lk
        rw [← w1] at lw
        rw [List.getD_eq_getElem?_getD, List.getElem?_eq_getElem lw]
        refine mem_met _ _ (.inr ⟨vs[k], List.mem_filterMap.mpr ⟨k, hk2, List.getElem?_eq_getElem lk⟩, ?_⟩)
        exact List.mem_filter.mpr ⟨w3 _ (List.getElem_mem lw), w4 k _ _ (List.getElem?_eq_getElem lk) (List.getElem?_eq_getElem lw)⟩
    omega
  | _ => cases h
theorem th_places {ks : List Nat} (h : ks.length ≤ 30) : thB (natT ks) = true := th_tup (th_nat ks) (by rw [List.length_map]; omega)
end DL

namespace DL
open PySem PySem.Spec PyProof.Rows L2
/-- _law_machine: slots 0 _law_pen_here 1 _law_doers 2 _law_k 3 _law_ways 4 _law_lag 5 _law_boxes 6 _law_left 7 _law_skills 8 _law_j 9 _law_froms_here 10 _law_tos_here 11 _law_way 12 _law_some 13 _law_others 14 _law_port; calls _law_draw _law_tos _law_froms _law_deeds; names  -/
def machBC : CB := (.cons (.par2 4 5 (.cons (.fn 0 (.cons (.var 0) (.cons (.int 4) .nil))) (.cons (.addv (.int 1) (.fn 0 (.cons (.var 0) (.cons (.int 12) .nil)))) .nil))) (.cons (.asg (.name 1) (.lst .nil)) (.cons (.fors (.name 2) (.rng1 (.addv (.int 1) (.fn 0 (.cons (.var 0) (.cons (.int 4) .nil))))) (.cons (.asg (.name 6) (.fn 3 .nil)) (.cons (.asg (.name 7) (.lst .nil)) (.cons (.fors (.name 8) (.rng1 (.ix (.lstv (.cons (.addv (.int 1) (.fn 0 (.cons (.var 0) (.cons (.int 3) .nil)))) (.cons (.int 7) .nil))) (.blt .int (.cons (.cmp .Eq (.fn 0 (.cons (.var 0) (.cons (.int 8) .nil))) (.int 0)) .nil)))) (.cons (.expr (.mt .append (.var 7) (.cons (.mt .popAt (.var 6) (.cons (.fn 0 (.cons (.var 0) (.cons (.blt .len (.cons (.var 6) .nil)) .nil))) .nil)) .nil))) .nil)) (.lk 7 (.cons (.expr (.mt .append (.var 1) (.cons (.tup (.cons (.addv (.int 1) (.fn 0 (.cons (.var 0) (.cons (.int 4) .nil)))) (.cons (.blt .tuple (.cons (.var 7) .nil)) .nil))) .nil))) .nil)))))) (.lk 1 (.cons (.par2 9 10 (.cons (.fn 2 (.cons (.var 5) (.cons (.blt .len (.cons (.var 1) .nil)) .nil))) (.cons (.fn 1 (.cons (.var 5) (.cons (.blt .len (.cons (.var 1) .nil)) .nil))) .nil))) (.cons (.asg (.name 3) (.lst .nil)) (.cons (.fors (.name 2) (.rng1 (.addv (.int 1) (.fn 0 (.cons (.var 0) (.cons (.int 6) .nil))))) (.cons (.asg (.name 11) (.tup (.cons (.blt .tuple (.cons (.var 9) .nil)) (.cons (.blt .tuple (.cons (.var 10) .nil)) .nil)))) (.cons (.ifs (.cmp .Eq (.fn 0 (.cons (.var 0) (.cons (.int 4) .nil))) (.int 0)) (.cons (.asg (.name 12) (.or (.lcv [("_law_port", 14)] (.name 14) (.it (.var 9)) (.one (.cmp .Eq (.fn 0 (.cons (.var 0) (.cons (.int 2) .nil))) (.int 0))) (.var 14)) (.slv (.var 9) .no (.part (.int 1))))) (.cons (.asg (.name 13) (.or (.lcv [("_law_port", 14)] (.name 14) (.it (.var 10)) (.one (.cmp .Gt (.fn 0 (.cons (.var 0) (.cons (.int 3) .nil))) (.int 0))) (.var 14)) (.slv (.var 10) (.part (.neg (.int 1))) .no))) (.cons (.asg (.name 11) (.tup (.cons (.blt .tuple (.cons (.var 12) .nil)) (.cons (.blt .tuple (.cons (.revv (.var 13)) .nil)) .nil)))) .nil))) .nil) (.cons (.expr (.mt .append (.var 3) (.cons (.var 11) .nil))) .nil)))) (.lk 3 (.cons (.ret (.tup (.cons (.var 4) (.cons (.var 5) (.cons (.blt .tuple (.cons (.var 1) .nil)) (.cons (.blt .tuple (.cons (.var 3) .nil)) .nil)))))) .nil)))))))))
/-- _law_deeds: slots ; calls ; names  -/
def deedsTC : CB := (.cons (.ret (.lst (.cons (.str "add") (.cons (.str "less") (.cons (.str "times") (.cons (.str "both") (.cons (.str "odd") (.cons (.str "same") (.cons (.str "under") .nil))))))))) .nil)
/-- _law_homes: slots 0 _law_program_here 1 _law_names_here 2 _law_some 3 _law_name_here; calls _law_alive _law_all_names; names  -/
def homesBC : CB := (.cons (.asg (.name 1) (.fn 1 (.cons (.var 0) .nil))) (.cons (.ret (.blt .tuple (.cons (.lcv [("_law_some", 2)] (.name 2) (.it (.fn 0 (.cons (.var 0) .nil))) .no (.blt .tuple (.cons (.lcv [("_law_name_here", 3)] (.name 3) (.it (.var 2)) .no (.tup (.cons (.var 3) (.cons (.mt .index (.var 1) (.cons (.var 3) .nil)) .nil)))) .nil))) .nil))) .nil))
/-- _law_paper: slots 0 _law_pen_here 1 _law_machine_here 2 _law_program_here 3 _law_found 4 _law_names_here 5 _law_left 6 _law_name_here; calls _law_alive _law_draw; names  -/
def paperBC : CB := (.cons (.asg (.name 3) (.lst .nil)) (.cons (.fors (.name 4) (.it (.fn 0 (.cons (.var 2) .nil))) (.cons (.asg (.name 5) (.rg true (.ix (.var 1) (.int 1)))) (.cons (.ifs (.cmp .Gt (.blt .len (.cons (.var 4) .nil)) (.blt .len (.cons (.var 5) .nil))) (.cons (.ret .non) .nil) .nil) (.cons (.expr (.mt .append (.var 3) (.cons (.blt .tuple (.cons (.lcv [("_law_name_here", 6)] (.name 6) (.it (.var 4)) .no (.tup (.cons (.var 6) (.cons (.mt .popAt (.var 5) (.cons (.fn 1 (.cons (.var 0) (.cons (.blt .len (.cons (.var 5) .nil)) .nil))) .nil)) .nil)))) .nil)) .nil))) .nil)))) (.lk 3 (.cons (.ret (.blt .tuple (.cons (.var 3) .nil))) .nil))))
/-- _law_due: slots 0 _law_machine_here 1 _law_program_here 2 _law_paper_here 3 _law_worths 4 _law_found 5 _law_k 6 _law_name_here 7 _law_other 8 _law_box; calls ; names  -/
def dueBC : CB := (.cons (.asg (.name 4) (.bin .Mult (.lst (.cons .non .nil)) (.ix (.var 0) (.int 1)))) (.cons (.fors (.tup 2 (.cons (.name 5) (.cons (.name 6) .nil))) (.enum (.ix (.var 1) (.int 0))) (.cons (.fors (.tup 2 (.cons (.name 7) (.cons (.name 8) .nil))) (.it (.ix (.var 2) (.int 0))) (.cons (.ifs (.cmp .Eq (.var 7) (.var 6)) (.cons (.asg (.sub (.var 4) (.var 8)) (.ix (.var 3) (.var 5))) .nil) .nil) .nil)) .nil)) (.lk 4 (.cons (.ret (.blt .tuple (.cons (.var 4) .nil))) .nil))))
/-- begin_boxes: slots 0 machine 1 program 2 paper 3 worths 4 held 5 found 6 name 7 box; calls ; names  -/
def beginBC : CB := (.cons (.asg (.name 4) (.dzip (.ix (.var 1) (.int 0)) (.var 3))) (.cons (.setLc 5 [("box", 7)] (.name 7) (.rng1 (.ix (.var 0) (.int 1))) .no .non) (.cons (.fors (.tup 2 (.cons (.name 6) (.cons (.name 7) .nil))) (.it (.ix (.var 2) (.int 0))) (.cons (.asg (.sub (.var 5) (.var 7)) (.ix (.var 4) (.var 6))) .nil)) (.lk 5 (.cons (.ret (.blt .tuple (.cons (.var 5) .nil))) .nil)))))
end DL

namespace DL
open PySem PySem.Spec PyProof.Rows L2
/-! a machine, drawn the other way -/
def sp_l_deedsT : DSp := fun ds G Q _ => ds = [] ∧ ∀ a, G a = none → Q (.ref a) (put G a (.lst (deedsL.map D.str)))
theorem len_l_deedsT : LenS sp_l_deedsT 0 := by rintro ds G Q xq ⟨rfl, _⟩; rfl
theorem body_l_deedsT : Bod [] [] deedsTC 0 sp_l_deedsT := by
  rintro ds G Q xq ⟨rfl, q⟩
  exact ⟨sz3 7, fun a fa => q a fa⟩
theorem some_pop {sk left ts : List Str} (h : (sk ++ left).Perm ts) (hn : sk ≠ []) : SomeOf ts sk := by
  obtain ⟨l, h1, h2⟩ := List.exists_perm_sublist (List.sublist_append_left sk left) h
  exact ⟨hn, l, h2, h1.symm⟩
theorem perm_eraseS {y : Str} : ∀ {left : List Str} {k : Nat}, left[k]? = some y → (y :: left.eraseIdx k).Perm left
  | [], k, h => by simp at h
  | z :: left, 0, h => by
    have h := Option.some.inj h
    subst h
    exact List.Perm.refl _
  | z :: left, k + 1, h => by
    have ih := perm_eraseS (left := left) (k := k) h
    exact (List.Perm.swap z y _).trans (ih.cons z)
theorem map_eraseS {f : Str → D} : ∀ {l : List Str} {k : Nat}, (l.map f).eraseIdx k = (l.eraseIdx k).map f
  | [], k => rfl
  | z :: l, 0 => rfl
  | z :: l, k + 1 => congrArg (fun t => f z :: t) (map_eraseS (l := l) (k := k))
theorem some_sub {ts xs : List Str} (h : xs.Sublist ts) (hn : xs ≠ []) : SomeOf ts xs := ⟨hn, xs, h, List.Perm.refl _⟩
theorem SomeOf.reverse {ts xs : List Str} (h : SomeOf ts xs) : SomeOf ts xs.reverse := by
  obtain ⟨h1, ys, h2, h3⟩ := h
  exact ⟨by simpa using h1, ys, h2, (List.reverse_perm xs).trans h3⟩
theorem cut_last {ts : List Str} (h : ts ≠ []) : ∃ xs, cutD (ts.map D.str) (some (-1)) none = xs.map D.str ∧ xs.Sublist ts ∧ xs ≠ [] := by
  have hl := List.length_pos_iff.mpr h
  refine ⟨ts.drop (ts.length - 1), ?_, List.drop_sublist _ _, fun z => ?_⟩
  · unfold cutD
    have e : HT.sIx (ts.map D.str).length 0 (some (-1)) = ts.length - 1 := by
      unfold HT.sIx
      rw [List.length_map]
      simp
      omega
    rw [e, HT.sIx_none, List.map_drop, List.take_of_length_le (by rw [List.length_drop]; exact Nat.le_refl _)]
  · have := congrArg List.length z
    rw [List.length_drop, List.length_nil] at this
    omega
theorem cut_first {ts : List Str} (h : ts ≠ []) : ∃ xs, cutD (ts.map D.str) none (some 1) = xs.map D.str ∧ xs.Sublist ts ∧ xs ≠ [] := by
  cases ts with
  | nil => exact absurd rfl h
  | cons t ts => exact ⟨[t], cut_hi (j := 1) _ (by simp), by simp, by simp⟩
def sp_l_machine : DSp := spN 400 (fun es => es = []) fun _ d => ∃ m : Mach, m.Ok ∧ d = m.d
theorem len_l_machine : LenS sp_l_machine 1 := by rintro ds G Q xq ⟨p, s, G0, es, rfl, _, rfl, _⟩; rfl
abbrev FB : List DSp := [spDrawB, sp_l_tos_by, sp_l_froms_by, sp_l_deedsT]
set_option maxHeartbeats 0 in
theorem body_l_machine : Bod FB [] machBC 15 sp_l_machine := by
  rintro ds G Q xq ⟨p, s, G0, es, rfl, rfl, rfl, hs, q⟩
  refine ⟨p, s, 4, G0, rfl, rfl, by decide, by decide, by omega, fun lag s1 hl1 b1 => ?_⟩
  refine ⟨p, s1, 12, G0, rfl, rfl, by decide, by decide, by omega, fun bx s2 hl2 b2 => ?_⟩
  refine ⟨sz3 0, fun a fa => ?_⟩
  have hap : a ≠ p := fun z => by subst z; rw [put_same] at fa; cases fa
  have fa0 : G0 a = none := by rw [put_ne hap] at fa; exact fa
  have atA : ∀ {u v : Cl}, put (put G0 a u) p v a = some u := fun {u v} => by rw [put_ne hap]; exact put_same
  rw [put_comm (Ne.symm hap)]
  refine ⟨p, s2, 4, _, rfl, rfl, by decide, by decide, by omega, fun r3 s3 hl3 b3 => ?_⟩
  refine ⟨by omega, by omega, ?_⟩
  show forS _ _ _ _ _ _ _
  refine for_op (I := fun k ρ G1 => ∃ (ds : List (Nat × List Str)) (s4 : Pn) (x2 x6 x7 x8 : Option D), ρ = [some (.ref p), some (.ref a), x2, none, some (.int lag), some (.int (1 + (bx : Int))), x6, x7, x8, none, none, none, none, none, none] ∧ ds.length = k ∧ (∀ d ∈ ds, DoerOk d) ∧ s4.at_ ≤ s3.at_ + 12 * k ∧ G1 = put (put G0 a (.lst (ds.map doerD))) p s4.c) ⟨[], s3, _, _, _, _, rfl, rfl, by simp, by omega, rfl⟩ ?_ ?_
  · rintro i x hx ρ G1 E ⟨ds, s4, x2, x6, x7, x8, rfl, hdl, hd, b4, rfl⟩ eN eC eR eB eX
    obtain ⟨hi, rfl⟩ := get_range hx
    refine ⟨trivial, rfl, fun l fl => ⟨sz3 0, fun t ft => ?_⟩⟩
    -- the cells' places
    have hlp : l ≠ p := fun z => by subst z; rw [put_same] at fl; cases fl
    have fl1 : put G0 a (.lst (ds.map doerD)) l = none := by rw [put_ne hlp] at fl; exact fl
    have hla : l ≠ a := fun z => by subst z; rw [put_same] at fl1; cases fl1
    have htl : t ≠ l := fun z => by subst z; rw [put_same] at ft; cases ft
    have ft1 := ft
    rw [put_ne htl] at ft1
    have htp : t ≠ p := fun z => by subst z; rw [put_same] at ft1; cases ft1
    have ft2 : put G0 a (.lst (ds.map doerD)) t = none := by rw [put_ne htp] at ft1; exact ft1
    have hta : t ≠ a := fun z => by subst z; rw [put_same] at ft2; cases ft2
    rw [put_comm (Ne.symm hlp), put_comm (Ne.symm htp)]
    have atL : ∀ {u v w y : Cl}, put (put (put (put G0 a u) l v) t w) p y l = some v := fun {u v w y} => by rw [put_ne hlp, put_ne (Ne.symm htl)]; exact put_same
    have atT : ∀ {u v w y : Cl}, put (put (put (put G0 a u) l v) t w) p y t = some w := fun {u v w y} => by rw [put_ne htp]; exact put_same
    refine ⟨p, s4, 3, _, rfl, rfl, by decide, by decide, by omega, fun r5 s5 hl5 b5 => ⟨sz3 2, ?_⟩⟩
    refine ⟨p, s5, 8, _, rfl, rfl, by decide, by decide, by omega, fun r6 s6 hl6 b6 => ?_⟩
    obtain ⟨n, hn, hn1, hn7⟩ : ∃ n : Nat, atI [D.int (1 + (r5 : Int)), .int 7] (if ((r6 : Int) == 0) = true then (1 : Int) else 0) = some (.int n) ∧ 1 ≤ n ∧ n ≤ 7 := by
      by_cases h : ((r6 : Int) == 0) = true
      · rw [if_pos h]
        exact ⟨7, rfl, by decide, by decide⟩
      · rw [if_neg h]
        exact ⟨1 + r5, by rw [show (((1 + r5 : Nat)) : Int) = 1 + (r5 : Int) by omega]; rfl, by omega, by omega⟩
    refine ⟨_, hn, by omega, by omega, ?_⟩
    show forS _ _ _ _ _ _ _
    refine for_op (I := fun j ρ G1 => ∃ (sk left : List Str) (s7 : Pn) (x8 : Option D), ρ = [some (.ref p), some (.ref a), some (.int (0 + (i : Int))), none, some (.int lag), some (.int (1 + (bx : Int))), some (.ref l), some (.ref t), x8, none, none, none, none, none, none] ∧ sk.length = j ∧ (sk ++ left).Perm deedsL ∧ s7.at_ ≤ s6.at_ + j ∧ G1 = put (put (put (put G0 a (.lst (ds.map doerD))) l (.lst (left.map D.str))) t (.lst (sk.map D.str))) p s7.c) ⟨[], deedsL, s6, _, rfl, rfl, List.Perm.refl _, by omega, rfl⟩ ?_ ?_
    · rintro j y hy ρ G1 E2 ⟨sk, left, s7, x8, rfl, hsl, hP, b7, rfl⟩ fN fC fR fB fX
      obtain ⟨hj, rfl⟩ := get_range hy
      have hlen := hP.length_eq
      rw [List.length_append] at hlen
      have h7 : deedsL.length = 7 := rfl
      have hj' : j < n := by omega
      have hl0 : 0 < left.length := by omega
      refine ⟨trivial, ⟨rfl, _, atT⟩, ⟨rfl, _, atL⟩, _, atL, ?_⟩
      refine ⟨p, s7, _, _, rfl, rfl, by rw [List.length_map]; omega, by rw [List.length_map]; omega, by omega, fun k s8 hk b8 => ?_⟩
      rw [List.length_map] at hk
      have hkl : k < left.length := by omega
      refine ⟨_, k, .str left[k], rfl, by omega, atL, by rw [List.getElem?_map, List.getElem?_eq_getElem hkl]; rfl, ?_⟩
      rw [put_comm (Ne.symm hlp), put_mid2 (Ne.symm htl)]
      refine ⟨_, atT, by rw [List.length_map]; exact Nat.lt_of_le_of_lt (show _ ≤ 10 by omega) (by decide), ?_⟩
      rw [put_mid2 htp]
      refine fN _ _ _ .refl ⟨sk ++ [left[k]], left.eraseIdx k, s8, _, rfl, by simp [hsl], ?_, by omega, ?_⟩
      · refine List.Perm.trans ?_ hP
        rw [List.append_assoc]
        exact List.Perm.append_left sk (perm_eraseS (List.getElem?_eq_getElem hkl))
      · rw [List.map_append, map_eraseS]
        rfl
    · rintro ρ G1 ⟨sk, left, s7, x8, rfl, hsl, hP, b7, rfl⟩
      rw [rangeD_len] at hsl b7
      have hskn : sk ≠ [] := fun z => by
        rw [z, List.length_nil] at hsl
        omega
      refine ⟨trivial, t, _, rfl, atT, ?_⟩
      rw [put_comm htp, drop_put (by rw [put_ne htp, put_ne htl]; exact ft2)]
      have atA2 : ∀ {u v y : Cl}, put (put (put G0 a u) l v) p y a = some u := fun {u v y} => by rw [put_ne hap, put_ne (Ne.symm hla)]; exact put_same
      refine ⟨⟨rfl, _, atA2⟩, p, s7, 4, _, rfl, rfl, by decide, by decide, by omega, fun dl s8 hl8 b8 => ⟨sz3 2, _, atA2, by rw [List.length_map]; exact Nat.lt_of_le_of_lt (show _ ≤ 10 by omega) (by decide), ?_⟩⟩
      rw [put_comm (Ne.symm hap), put_mid2 (Ne.symm hla)]
      refine eN _ _ (put (put G0 a (.lst ((ds ++ [(1 + dl, sk)]).map doerD))) p s8.c) ?_ ⟨ds ++ [(1 + dl, sk)], s8, _, _, _, _, rfl, by simp [hdl], ?_, by omega, rfl⟩
      · rw [List.map_append]
        show Dn (put (put (put G0 a (.lst (ds.map doerD ++ [D.tup [.int (1 + (dl : Int)), .tup (sk.map D.str)]]))) l _) p _) (put (put G0 a (.lst (ds.map doerD ++ [D.tup [.int ((1 + dl : Nat) : Int), strsD sk]]))) p s8.c)
        rw [show ((1 + dl : Nat) : Int) = 1 + (dl : Int) by omega, put_comm hlp]
        refine Dn.new ?_
        rw [put_ne hlp, put_ne hla]
        rw [put_ne hla] at fl1
        exact fl1
      · intro d hd'
        rcases List.mem_append.mp hd' with hd' | hd'
        · exact hd d hd'
        · rw [List.mem_singleton] at hd'
          subst hd'
          exact ⟨by show 1 ≤ 1 + dl; omega, by show 1 + dl ≤ 4; omega, some_pop hP hskn⟩
  · rintro ρ G1 ⟨ds, s4, x2, x6, x7, x8, rfl, hdl, hd, b4, rfl⟩
    rw [rangeD_len] at hdl b4
    have hdl1 : 1 ≤ ds.length := by omega
    have hdl2 : ds.length ≤ 4 := by omega
    refine ⟨trivial, a, _, rfl, atA, ?_⟩
    rw [put_comm hap, drop_put (by rw [put_ne hap]; exact fa0)]
    refine ⟨1 + bx, ds.length, by rw [List.length_map, show ((1 + bx : Nat) : Int) = 1 + (bx : Int) by omega], by omega, by omega, 1 + bx, ds.length, by rw [List.length_map, show ((1 + bx : Nat) : Int) = 1 + (bx : Int) by omega], by omega, by omega, ?_⟩
    obtain ⟨bb, hbb⟩ : ∃ bb, bb = 1 + bx := ⟨_, rfl⟩
    rw [← hbb]
    have hb1 : 1 ≤ bb := by omega
    have hb2 : bb ≤ 12 := by omega
    have hfl : fromsL bb ds.length ≠ [] := ne_of_len (by rw [froms_len]; omega)
    have htl : tosL bb ds.length ≠ [] := ne_of_len (by rw [tos_len]; omega)
    refine ⟨sz3 0, fun w fw => ?_⟩
    have hwp : w ≠ p := fun z => by subst z; rw [put_same] at fw; cases fw
    have fw0 : G0 w = none := by rw [put_ne hwp] at fw; exact fw
    have atW : ∀ {u v : Cl}, put (put G0 w u) p v w = some u := fun {u v} => by rw [put_ne hwp]; exact put_same
    rw [put_comm (Ne.symm hwp)]
    refine ⟨p, s4, 6, _, rfl, rfl, by decide, by decide, by omega, fun r9 s9 hl9 b9 => ?_⟩
    refine ⟨by omega, by omega, ?_⟩
    show forS _ _ _ _ _ _ _
    refine for_op (I := fun k ρ G1 => ∃ (ws : List (List Str × List Str)) (s5 : Pn) (x2 x6 x7 x8 x11 x12 x13 : Option D), ρ = [some (.ref p), some (.rl (ds.map doerD)), x2, some (.ref w), some (.int lag), some (.int (1 + (bx : Int))), x6, x7, x8, some (strsL (fromsL bb ds.length)), some (strsL (tosL bb ds.length)), x11, x12, x13, none] ∧ ws.length = k ∧ (∀ w ∈ ws, WayOk bb ds.length w) ∧ s5.at_ ≤ s9.at_ + 50 * k ∧ G1 = put (put G0 w (.lst (ws.map wayD))) p s5.c) ⟨[], s9, _, _, _, _, _, _, _, rfl, rfl, by simp, by omega, rfl⟩ ?_ ?_
    · rintro i x hx ρ G1 E ⟨ws, s5, x2, x6, x7, x8, x11, x12, x13, rfl, hwl, hw, b5, rfl⟩ eN eC eR eB eX
      obtain ⟨hi, rfl⟩ := get_range hx
      have fin : ∀ (fs ts : List Str) (s6 : Pn) (x12 x13 : Option D), SomeOf (fromsL bb ds.length) fs → SomeOf (tosL bb ds.length) ts → s6.at_ ≤ s5.at_ + 45 → denB FB [] (.cons (.expr (.mt .append (.var 3) (.cons (.var 11) .nil))) .nil) E [some (.ref p), some (.rl (ds.map doerD)), some (.int (0 + (i : Int))), some (.ref w), some (.int lag), some (.int (1 + (bx : Int))), x6, x7, x8, some (strsL (fromsL bb ds.length)), some (strsL (tosL bb ds.length)), some (.tup [.tup (fs.map D.str), .tup (ts.map D.str)]), x12, x13, none] (put (put G0 w (.lst (ws.map wayD))) p s6.c) := by
        intro fs ts s6 x12 x13 h1 h2 h3
        refine ⟨⟨rfl, _, atW⟩, _, atW, by rw [List.length_map]; exact Nat.lt_of_le_of_lt (show _ ≤ 10 by omega) (by decide), ?_⟩
        rw [put_mid2 hwp]
        refine eN _ _ _ .refl ⟨ws ++ [(fs, ts)], s6, _, _, _, _, _, _, _, rfl, by simp [hwl], ?_, by omega, ?_⟩
        · intro d hd'
          rcases List.mem_append.mp hd' with hd' | hd'
          · exact hw d hd'
          · rw [List.mem_singleton] at hd'
            subst hd'
            exact ⟨h1, h2⟩
        · rw [List.map_append]
          rfl
      refine ⟨trivial, sz3 2, p, s5, 4, _, rfl, rfl, by decide, by decide, by omega, fun r6 s6 hl6 b6 => ?_⟩
      refine ite2 (fun h => ?_) (fun h => fin _ _ s6 _ _ (.all hfl) (.all htl) (by omega))
      have hfl2 := froms_len bb ds.length
      have htl2 := tos_len bb ds.length
      show lcS _ _ _ _ _ _ _ _ _
      refine lc_ix (I := fun k acc G1 => ∃ (us : List Str) (s7 : Pn), us.Sublist ((fromsL bb ds.length).take k) ∧ acc = us.map D.str ∧ s7.at_ ≤ s6.at_ + k ∧ G1 = put (put G0 w (.lst (ws.map wayD))) p s7.c) 0 ⟨[], s6, by simp, rfl, by omega, rfl⟩ ?_ ?_
      · rintro k x hx acc G1 N ⟨us, s7, hsu, rfl, b7, rfl⟩ hN
        obtain ⟨u, hu, rfl⟩ := get_map hx
        have hkl := (List.getElem?_eq_some_iff.mp hu).1
        rw [Nat.zero_add] at hN hsu b7
        refine ⟨trivial, p, s7, 2, _, rfl, rfl, by decide, by decide, by omega, fun r8 s8 hl8 b8 => ?_⟩
        refine ite2 (fun h => ?_) (fun h => hN _ _ ⟨us, s8, sub_step hsu, rfl, by omega, rfl⟩)
        refine ⟨?_, hN _ _ ⟨us ++ [u], s8, sub_snoc hsu hu, ?_, by omega, rfl⟩⟩
        · have := hsu.length_le
          rw [List.length_take] at this
          rw [List.length_map]
          exact Nat.lt_of_le_of_lt (show _ ≤ 100 by omega) (by decide)
        · rw [List.map_append]
          rfl
      · rintro acc G1 ⟨us, s7, hsu, rfl, b7, rfl⟩
        rw [Nat.zero_add, List.length_map, List.take_length] at hsu
        rw [Nat.zero_add, List.length_map] at b7
        refine ⟨trivial, ?_⟩
        -- behind the froms
        have next : ∀ fs : List Str, SomeOf (fromsL bb ds.length) fs → denB FB [] (.cons (.asg (.name 13) (.or (.lcv [("_law_port", 14)] (.name 14) (.it (.var 10)) (.one (.cmp .Gt (.fn 0 (.cons (.var 0) (.cons (.int 3) .nil))) (.int 0))) (.var 14)) (.slv (.var 10) (.part (.neg (.int 1))) .no))) (.cons (.asg (.name 11) (.tup (.cons (.blt .tuple (.cons (.var 12) .nil)) (.cons (.blt .tuple (.cons (.revv (.var 13)) .nil)) .nil)))) .nil)) { E with nx := denB FB [] (.cons (.expr (.mt .append (.var 3) (.cons (.var 11) .nil))) .nil) E } [some (.ref p), some (.rl (ds.map doerD)), some (.int (0 + (i : Int))), some (.ref w), some (.int lag), some (.int (1 + (bx : Int))), x6, x7, x8, some (strsL (fromsL bb ds.length)), some (strsL (tosL bb ds.length)), some (.tup [.tup ((fromsL bb ds.length).map D.str), .tup ((tosL bb ds.length).map D.str)]), some (.rl (fs.map D.str)), x13, none] (put (put G0 w (.lst (ws.map wayD))) p s7.c) := by
          intro fs hfs
          show lcS _ _ _ _ _ _ _ _ _
          refine lc_ix (I := fun k acc G1 => ∃ (us : List Str) (s8 : Pn), us.Sublist ((tosL bb ds.length).take k) ∧ acc = us.map D.str ∧ s8.at_ ≤ s7.at_ + k ∧ G1 = put (put G0 w (.lst (ws.map wayD))) p s8.c) 0 ⟨[], s7, by simp, rfl, by omega, rfl⟩ ?_ ?_
          · rintro k x hx acc G1 N ⟨us, s8, hsu, rfl, b8, rfl⟩ hN
            obtain ⟨u, hu, rfl⟩ := get_map hx
            have hkl := (List.getElem?_eq_some_iff.mp hu).1
            rw [Nat.zero_add] at hN hsu b8
            refine ⟨trivial, p, s8, 3, _, rfl, rfl, by decide, by decide, by omega, fun r10 s10 hl10 b10 => ?_⟩
            refine ite2 (fun h => ?_) (fun h => hN _ _ ⟨us, s10, sub_step hsu, rfl, by omega, rfl⟩)
            refine ⟨?_, hN _ _ ⟨us ++ [u], s10, sub_snoc hsu hu, ?_, by omega, rfl⟩⟩
            · have := hsu.length_le
              rw [List.length_take] at this
              rw [List.length_map]
              exact Nat.lt_of_le_of_lt (show _ ≤ 100 by omega) (by decide)
            · rw [List.map_append]
              rfl
          · rintro acc G1 ⟨us, s8, hsu, rfl, b8, rfl⟩
            rw [Nat.zero_add, List.length_map, List.take_length] at hsu
            rw [Nat.zero_add, List.length_map] at b8
            refine ⟨trivial, ?_⟩
            have last : ∀ ts : List Str, SomeOf (tosL bb ds.length) ts → denB FB [] (.cons (.asg (.name 11) (.tup (.cons (.blt .tuple (.cons (.var 12) .nil)) (.cons (.blt .tuple (.cons (.revv (.var 13)) .nil)) .nil)))) .nil) { E with nx := denB FB [] (.cons (.expr (.mt .append (.var 3) (.cons (.var 11) .nil))) .nil) E } [some (.ref p), some (.rl (ds.map doerD)), some (.int (0 + (i : Int))), some (.ref w), some (.int lag), some (.int (1 + (bx : Int))), x6, x7, x8, some (strsL (fromsL bb ds.length)), some (strsL (tosL bb ds.length)), some (.tup [.tup ((fromsL bb ds.length).map D.str), .tup ((tosL bb ds.length).map D.str)]), some (.rl (fs.map D.str)), some (.rl (ts.map D.str)), none] (put (put G0 w (.lst (ws.map wayD))) p s8.c) := by
              intro ts hts
              refine ⟨sz3 2, ?_⟩
              have := fin fs ts.reverse s8 (some (.rl (fs.map D.str))) (some (.rl (ts.map D.str))) hfs hts.reverse (by omega)
              rw [List.map_reverse] at this
              exact this
            refine ite2 (fun h => last us (some_sub hsu fun z => by rw [z] at h; cases h)) (fun h => ?_)
            obtain ⟨xs, e1, e2, e3⟩ := cut_last htl
            have := last xs (some_sub e2 e3)
            rw [← e1] at this
            exact this
        refine ite2 (fun h => next us (some_sub hsu fun z => by rw [z] at h; cases h)) (fun h => ?_)
        obtain ⟨xs, e1, e2, e3⟩ := cut_first hfl
        have := next xs (some_sub e2 e3)
        rw [← e1] at this
        exact this
    · rintro ρ G1 ⟨ws, s5, x2, x6, x7, x8, x11, x12, x13, rfl, hwl, hw, b5, rfl⟩
      rw [rangeD_len] at hwl b5
      refine ⟨trivial, w, _, rfl, atW, ?_⟩
      rw [put_comm hwp, drop_put (by rw [put_ne hwp]; exact fw0)]
      refine ⟨sz3 4, ?_⟩
      have := q (Mach.d ⟨lag, bb, ds, ws⟩) s5 ⟨⟨lag, bb, ds, ws⟩, ⟨by show lag ≤ 3; omega, hb1, hb2, hdl1, hdl2, hd, by show 1 ≤ ws.length; omega, by show ws.length ≤ 6; omega, hw⟩, rfl⟩ (by omega)
      unfold Mach.d at this
      rw [hbb, show ((1 + bx : Nat) : Int) = 1 + (bx : Int) by omega] at this
      exact this
end DL

namespace DL
open PySem PySem.Spec PyProof.Rows L2
/-! at the begin only params are alive -/
theorem pushes_mem : ∀ (ks : List Nat) (s : List Nat × List Nat), (∀ k ∈ s.1, k ∈ (ks.foldl pushN s).1) ∧ (∀ k ∈ ks, k ∈ (ks.foldl pushN s).1) ∧ (∀ k ∈ (ks.foldl pushN s).1, k ∈ s.1 ∨ k ∈ (ks.foldl pushN s).2) ∧ ∀ k ∈ s.2, k ∈ (ks.foldl pushN s).2
  | [], s => ⟨fun k h => h, fun k h => by simp at h, fun k h => .inl h, fun k h => h⟩
  | j :: ks, s => by
    obtain ⟨a1, a2, a3, a4⟩ := pushes_mem ks (pushN s j)
    rw [List.foldl_cons]
    have p1 : ∀ k ∈ s.1, k ∈ (pushN s j).1 := fun k h => by
      unfold pushN
      split
      · exact h
      · exact List.mem_append_left _ h
    have p2 : j ∈ (pushN s j).1 := by
      unfold pushN
      split
      · assumption
      · exact List.mem_append_right _ (by simp)
    have p3 : ∀ k ∈ (pushN s j).1, k ∈ s.1 ∨ k ∈ (pushN s j).2 := fun k h => by
      unfold pushN at h ⊢
      split at h
      · rename_i hh
        rw [if_pos hh]
        exact .inl h
      · rename_i hh
        rw [if_neg hh]
        rcases List.mem_append.mp h with h | h
        · exact .inl h
        · exact .inr (List.mem_append_right _ h)
    have p4 : ∀ k ∈ s.2, k ∈ (pushN s j).2 := fun k h => by
      unfold pushN
      split
      · exact h
      · exact List.mem_append_left _ h
    refine ⟨fun k h => a1 k (p1 k h), fun k h => ?_, fun k h => ?_, fun k h => a4 k (p4 k h)⟩
    · rcases List.mem_cons.mp h with rfl | h
      · exact a1 _ p2
      · exact a2 k h
    · rcases a3 k h with h | h
      · rcases p3 k h with h | h
        · exact .inl h
        · exact .inr (a4 k h)
      · exact .inr h
def ClU (p : Prog) (x : Str) (s : List Nat × List Nat) : Prop := ∀ b ∈ s.1, b ∉ s.2 → ∀ bl, p.blocks[b]? = some bl → setsIn x bl = false → ∀ c ∈ bl.2.led, c ∈ s.1
theorem mem_last {l : List Nat} {b k : Nat} (h : l.getLast? = some b) (hk : k ∈ l) (hn : k ∉ l.dropLast) : k = b := by
  have hne : l ≠ [] := fun z => by rw [z] at hk; cases hk
  have e := List.dropLast_concat_getLast hne
  rw [List.getLast?_eq_getLast hne] at h
  have hb := Option.some.inj h
  rw [← e, hb] at hk
  rcases List.mem_append.mp hk with z | z
  · exact (hn z).elim
  · exact List.mem_singleton.mp z
theorem goU_closed {p : Prog} (hL : p.Led) {x : Str} : ∀ (f : Nat) (s : List Nat × List Nat), StU p s → ClU p x s → meaU p s ≤ f → (∀ k ∈ s.1, k ∈ goU p x f s) ∧ ∀ b ∈ goU p x f s, ∀ bl, p.blocks[b]? = some bl → setsIn x bl = false → ∀ c ∈ bl.2.led, c ∈ goU p x f s
  | f, s, hS, hC, hm => by
    by_cases h0 : s.2 = []
    · rw [goU_end h0]
      exact ⟨fun k h => h, fun b hb bl h1 h2 c hc => hC b hb (by rw [h0]; simp) bl h1 h2 c hc⟩
    · cases f with
      | zero =>
        exfalso
        have := List.length_pos_iff.mpr h0
        unfold meaU at hm
        omega
      | succ f =>
        unfold goU
        rw [if_neg h0]
        have hmp := mea_pop (p := p) h0
        obtain ⟨b, hb⟩ : ∃ b, s.2.getLast? = some b := ⟨_, List.getLast?_eq_getLast h0⟩
        have hb2 : b ∈ s.2 := List.mem_of_getLast? hb
        have hbl := hS.2.1 b (hS.2.2 b hb2)
        have hbe : p.blocks[b]? = some p.blocks[b] := List.getElem?_eq_getElem hbl
        have keep : ∀ k ∈ s.1, k ∉ s.2.dropLast → k ≠ b → k ∉ s.2 := fun k _ h1 h2 h3 => h2 (mem_last hb h3 h1)
        by_cases hs : setsIn x p.blocks[b] = true
        · have e : stepU p x s = (s.1, s.2.dropLast) := by
            unfold stepU
            rw [hb]
            show (match p.blocks[b]? with | none => _ | some bl => _) = _
            rw [hbe]
            exact if_pos hs
          rw [e]
          obtain ⟨r1, r2⟩ := goU_closed hL (x := x) f _ hS.pop (fun k hk hn bl h1 h2 c hc => by
            by_cases ek : k = b
            · subst ek
              rw [hbe] at h1
              cases h1
              rw [hs] at h2
              cases h2
            · exact hC k hk (keep k hk hn ek) bl h1 h2 c hc) (by omega)
          exact ⟨r1, r2⟩
        · have e : stepU p x s = p.blocks[b].2.led.foldl pushN (s.1, s.2.dropLast) := by
            unfold stepU
            rw [hb]
            show (match p.blocks[b]? with | none => _ | some bl => _) = _
            rw [hbe]
            exact if_neg hs
          rw [e]
          obtain ⟨m1, m2, m3, m4⟩ := pushes_mem p.blocks[b].2.led (s.1, s.2.dropLast)
          obtain ⟨q1, q2⟩ := hS.pop.pushes (ks := p.blocks[b].2.led) fun k hk => hL.led _ (List.getElem_mem hbl) k hk
          obtain ⟨r1, r2⟩ := goU_closed hL (x := x) f _ q1 (fun k hk hn bl h1 h2 c hc => by
            rcases m3 k hk with hk2 | hk2
            · by_cases ek : k = b
              · subst ek
                rw [hbe] at h1
                cases h1
                exact m2 c hc
              · exact m1 c (hC k hk2 (keep k hk2 (fun z => hn (m4 k z)) ek) bl h1 h2 c hc)
            · exact (hn hk2).elim) (by omega)
          exact ⟨fun k hk => r1 k (m1 k hk), r2⟩
theorem unsetB_closed {p : Prog} (hL : p.Led) {x : Str} (hx : x ∉ p.params) : 0 ∈ unsetB p x ∧ ∀ b ∈ unsetB p x, ∀ bl, p.blocks[b]? = some bl → setsIn x bl = false → ∀ c ∈ bl.2.led, c ∈ unsetB p x := by
  unfold unsetB
  rw [if_neg hx]
  have hne := hL.ne
  obtain ⟨r1, r2⟩ := goU_closed hL (x := x) (2 * p.blocks.length + 2) ([0], [0]) ⟨by simp, fun k hk => by simp at hk; omega, fun k hk => hk⟩ (fun b hb hn => (hn hb).elim) (by unfold meaU; simp; omega)
  exact ⟨r1 0 (by simp), r2⟩
theorem useL_hit {x : Str} : ∀ {ls : List Ln}, useL x ls = true → ∃ r l, ls[r]? = some l ∧ x ∈ l.reads ∧ ((ls.take r).any fun l => setsB l x) = false
  | [], h => by cases h
  | l :: ls, h => by
    have h : (decide (x ∈ l.reads) || (!setsB l x && useL x ls)) = true := h
    rw [Bool.or_eq_true, Bool.and_eq_true] at h
    rcases h with h | ⟨h1, h2⟩
    · exact ⟨0, l, rfl, of_decide_eq_true h, rfl⟩
    · obtain ⟨r, l', e1, e2, e3⟩ := useL_hit h2
      refine ⟨r + 1, l', by simpa using e1, e2, ?_⟩
      rw [List.take_succ_cons, List.any_cons, e3]
      simpa using h1
theorem live_set {p : Prog} (hL : p.Led) (hU : UnsetIs p none) {x : Str} {b : Nat} (h : Live p x b) (hx : x ∉ p.params) (hb : b ∈ unsetB p x) : False := by
  have no : ∀ b r, ¬ HitR p b r := by
    rcases hU with ⟨_, h⟩ | ⟨b, r, e, _⟩
    · exact h
    · cases e
  induction h with
  | use h1 h2 =>
    rename_i b bl
    obtain ⟨r, l, e1, e2, e3⟩ := useL_hit h2
    refine no b r ⟨bl, l, x, h1, e1, e2, ?_⟩
    unfold hitB noneAhead
    rw [decide_eq_true hb, e3]
    rfl
  | on h1 h2 h3 _ ih => exact ih ((unsetB_closed hL hx).2 _ hb _ h1 h2 _ h3)
theorem live_begin {p : Prog} (hL : p.Led) (hU : UnsetIs p none) {x : Str} (h : Live p x 0) : x ∈ p.params := by
  by_cases hx : x ∈ p.params
  · exact hx
  · exact (live_set hL hU h hx (unsetB_closed hL hx).1).elim
end DL

namespace DL
open PySem PySem.Spec PyProof.Rows L2
/-! boxes at the begin -/
abbrev Home := Str × Nat
def homeD (h : Home) : D := .tup [.str h.1, natD h.2]
def homesD (hs : List Home) : D := .tup (hs.map homeD)
def paperD (pp : List (List Home)) : D := .tup (pp.map homesD)
structure HomesOk (nb : Nat) (hs : List Home) : Prop where
  nd : (hs.map (·.2)).Nodup
  lt : ∀ h ∈ hs, h.2 < nb
  len : hs.length ≤ 100
theorem HomesOk.inj {nb : Nat} {hs : List Home} (h : HomesOk nb hs) {a b : Home} (ha : a ∈ hs) (hb : b ∈ hs) (e : a.2 = b.2) : a = b := by
  obtain ⟨i, hi⟩ := List.getElem?_of_mem ha
  obtain ⟨j, hj⟩ := List.getElem?_of_mem hb
  have e1 : (hs.map (·.2))[i]? = some a.2 := by rw [List.getElem?_map, hi]; rfl
  have e2 : (hs.map (·.2))[j]? = some b.2 := by rw [List.getElem?_map, hj]; rfl
  have hil := (List.getElem?_eq_some_iff.mp e1).1
  have : i = j := (List.getElem?_inj hil h.nd).mp (by rw [e1, e2, e])
  subst this
  rw [hi] at hj
  exact Option.some.inj hj
/-- the boxes filled for those homes for which P stands -/
structure BoxP (nb : Nat) (ps : List Str) (ws : List Nat) (hs : List Home) (P : Home → Prop) (L : List D) : Prop where
  len : L.length = nb
  at_ : ∀ h ∈ hs, P h → ∀ (k n : Nat), ps[k]? = some h.1 → ws[k]? = some n → L[h.2]? = some (natD n)
  no : ∀ b, b < nb → (∀ h ∈ hs, P h → h.2 ≠ b) → L[b]? = some .non
section
variable {nb : Nat} {ps : List Str} {ws : List Nat} {hs : List Home} {P P' : Home → Prop} {L L' : List D}
theorem BoxP.congr (h : BoxP nb ps ws hs P L) (e : ∀ x ∈ hs, (P x ↔ P' x)) : BoxP nb ps ws hs P' L :=
  ⟨h.len, fun x hx hp => h.at_ x hx ((e x hx).mpr hp), fun b hb hn => h.no b hb fun x hx hp => hn x hx ((e x hx).mp hp)⟩
theorem BoxP.zero (h : ∀ x ∈ hs, ¬ P x) : BoxP nb ps ws hs P (List.replicate nb .non) :=
  ⟨by simp, fun x hx hp => (h x hx hp).elim, fun b hb _ => by rw [List.getElem?_replicate, if_pos hb]⟩
theorem BoxP.step (h : BoxP nb ps ws hs P L) (H : HomesOk nb hs) (hnd : ps.Nodup) {x : Home} (hx : x ∈ hs) {k n : Nat} (hk : ps[k]? = some x.1) (hn : ws[k]? = some n) : BoxP nb ps ws hs (fun y => P y ∨ y = x) (L.set x.2 (natD n)) := by
  have hxl : x.2 < L.length := by rw [h.len]; exact H.lt x hx
  refine ⟨by rw [List.length_set]; exact h.len, fun y hy hp k' n' hk' hn' => ?_, fun b hb hno => ?_⟩
  · by_cases e : y = x
    · subst e
      have : k = k' := (List.getElem?_inj (List.getElem?_eq_some_iff.mp hk).1 hnd).mp (by rw [hk, hk'])
      subst this
      rw [hn] at hn'
      cases hn'
      rw [List.getElem?_set_self hxl]
    · have hne : x.2 ≠ y.2 := fun z => e (H.inj hy hx z.symm)
      rw [List.getElem?_set_ne hne]
      rcases hp with hp | hp
      · exact h.at_ y hy hp k' n' hk' hn'
      · exact (e hp).elim
  · have hne : x.2 ≠ b := hno x hx (.inr rfl)
    rw [List.getElem?_set_ne hne]
    exact h.no b hb fun y hy hp => hno y hy (.inl hp)
theorem BoxP.uniq (h : BoxP nb ps ws hs P L) (h' : BoxP nb ps ws hs P L') (hP : ∀ x ∈ hs, P x → x.1 ∈ ps) (hl : ws.length = ps.length) : L = L' := by
  refine List.ext_getElem? fun b => ?_
  by_cases hb : b < nb
  · by_cases e : ∀ x ∈ hs, P x → x.2 ≠ b
    · rw [h.no b hb e, h'.no b hb e]
    · obtain ⟨x, hx, hp, rfl⟩ : ∃ x, x ∈ hs ∧ P x ∧ x.2 = b := by
        refine Classical.byContradiction fun z => e fun x hx hp he => z ⟨x, hx, hp, he⟩
      obtain ⟨k, hk⟩ := List.getElem?_of_mem (hP x hx hp)
      have hkl := (List.getElem?_eq_some_iff.mp hk).1
      obtain ⟨n, hn⟩ : ∃ n, ws[k]? = some n := ⟨_, List.getElem?_eq_getElem (by rw [hl]; exact hkl)⟩
      rw [h.at_ x hx hp k _ hk hn, h'.at_ x hx hp k _ hk hn]
  · rw [List.getElem?_eq_none (by rw [h.len]; omega), List.getElem?_eq_none (by rw [h'.len]; omega)]
theorem BoxP.plain (h : BoxP nb ps ws hs P L) (hP : ∀ x ∈ hs, P x → x.1 ∈ ps) (hl : ws.length = ps.length) (hb : nb ≤ 1000) : PlainD 3 (.tup L) := by
  refine ⟨by rw [h.len]; exact hb, fun d hd => ?_⟩
  obtain ⟨b, hb⟩ := List.getElem?_of_mem hd
  have hbl := (List.getElem?_eq_some_iff.mp hb).1
  rw [h.len] at hbl
  by_cases e : ∀ x ∈ hs, P x → x.2 ≠ b
  · rw [h.no b hbl e] at hb
    cases hb
    exact trivial
  · obtain ⟨x, hx, hp, rfl⟩ : ∃ x, x ∈ hs ∧ P x ∧ x.2 = b := by
      refine Classical.byContradiction fun z => e fun x hx hp he => z ⟨x, hx, hp, he⟩
    obtain ⟨k, hk⟩ := List.getElem?_of_mem (hP x hx hp)
    have hkl := (List.getElem?_eq_some_iff.mp hk).1
    obtain ⟨n, hn⟩ : ∃ n, ws[k]? = some n := ⟨_, List.getElem?_eq_getElem (by rw [hl]; exact hkl)⟩
    rw [h.at_ x hx hp k _ hk hn] at hb
    cases hb
    exact trivial
end
/-- what both ask -/
structure BegIn (m : Mach) (pr : Prog) (pp : List (List Home)) (hs : List Home) (ws : List Nat) : Prop where
  b : m.boxes ≤ 100
  h0 : pp[0]? = some hs
  ho : HomesOk m.boxes hs
  nd : pr.params.Nodup
  pl : pr.params.length ≤ 10
  al : ∀ h ∈ hs, h.1 ∈ pr.params
  wl : ws.length = pr.params.length
def spBoxes : DSp := fun ds G Q _ => ∃ (m : Mach) (pr : Prog) (pp : List (List Home)) (hs : List Home) (ws : List Nat), ds = [m.d, pr.d, paperD pp, natT ws] ∧ BegIn m pr pp hs ws ∧ ∀ L, BoxP m.boxes pr.params ws hs (fun _ => True) L → Q (.tup L) G
theorem len_boxes : LenS spBoxes 4 := by rintro ds G Q xq ⟨m, pr, pp, hs, ws, rfl, _⟩; rfl
theorem paper0 {pp : List (List Home)} {hs : List Home} (h : pp[0]? = some hs) : atI (pp.map homesD) 0 = some (homesD hs) := atI_nat (j := 0) (by rw [List.getElem?_map, h]; rfl)
def heldK (ps : List Str) (ws : List Nat) : List (Key × D) := (ps.zip ws).map fun z => (.inr z.1, natD z.2)
theorem held_keys : ∀ {ps : List Str} {ws : List Nat}, ws.length = ps.length → (heldK ps ws).map (fun kv => keyV kv.1) = ps.map D.str ∧ (heldK ps ws).map (·.2) = ws.map natD
  | [], [], _ => ⟨rfl, rfl⟩
  | [], w :: ws, h => by simp at h
  | p :: ps, [], h => by simp at h
  | p :: ps, w :: ws, h => by
    obtain ⟨a, b⟩ := held_keys (ps := ps) (ws := ws) (by simpa using h)
    exact ⟨congrArg (D.str p :: ·) a, congrArg (natD w :: ·) b⟩
theorem held_val : ∀ {ps : List Str} {ws : List Nat} {k n : Nat} {x : Str}, ps.Nodup → ps[k]? = some x → ws[k]? = some n → valD (heldK ps ws) (.inr x) = some (natD n)
  | [], ws, k, n, x, _, h, _ => by simp at h
  | p :: ps, [], k, n, x, _, _, h => by simp at h
  | p :: ps, w :: ws, 0, n, x, _, h1, h2 => by
    simp at h1 h2
    subst h1 h2
    show ((List.find? _ ((Sum.inr p, natD w) :: heldK ps ws)).map _) = _
    rw [List.find?_cons_of_pos (by simp)]
    rfl
  | p :: ps, w :: ws, k + 1, n, x, hnd, h1, h2 => by
    have hnd' := List.nodup_cons.mp hnd
    have ih := held_val (ps := ps) (ws := ws) (k := k) (n := n) (x := x) hnd'.2 (by simpa using h1) (by simpa using h2)
    have hne : p ≠ x := fun z => hnd'.1 (z ▸ List.mem_of_getElem? (show ps[k]? = some x by simpa using h1))
    show ((List.find? _ ((Sum.inr p, natD w) :: heldK ps ws)).map _) = _
    rw [List.find?_cons_of_neg (by simp [hne])]
    exact ih
theorem held_fst : ∀ {ps : List Str} {ws : List Nat}, ws.length = ps.length → (heldK ps ws).map (·.1) = ps.map Sum.inr
  | [], [], _ => rfl
  | [], w :: ws, h => by simp at h
  | p :: ps, [], h => by simp at h
  | p :: ps, w :: ws, h => congrArg ((Sum.inr p : Key) :: ·) (held_fst (ps := ps) (ws := ws) (by simpa using h))
set_option maxHeartbeats 0 in
theorem body_begin : BodW [] [] beginBC 8 spBoxes := by
  rintro ds G Q xq ⟨m, pr, pp, hs, ws, rfl, B, q⟩
  have hb := B.b
  have hpl := B.pl
  obtain ⟨k1, k2⟩ := held_keys B.wl
  have hkl : (heldK pr.params ws).length = pr.params.length := by
    unfold heldK
    rw [List.length_map, List.length_zip, B.wl, Nat.min_self]
  refine ⟨_, rfl, heldK pr.params ws, k1.symm, k2.symm, by rw [hkl]; omega, fun d fd => ?_⟩
  have hmer : mergeD [] (heldK pr.params ws) = heldK pr.params ws := by
    have := mergeD_app (heldK pr.params ws) [] (by rw [held_fst B.wl]; exact unlike_of B.nd) (fun kv h => (List.not_mem_nil h).elim)
    rwa [List.nil_append] at this
  rw [hmer]
  refine ⟨_, rfl, by omega, by omega, ?_⟩
  show lcS _ _ _ _ _ _ _ _ _
  refine lc_mapA (fun i : Nat => D.int (0 + i)) (fun _ => D.non) (xs := List.range m.boxes) (by rw [show ((m.boxes : Int)).toNat = m.boxes by omega]; rfl) (by rw [List.length_range]; exact Nat.lt_of_le_of_lt hb (by decide)) trivial (fun i k hk K kk => kk) ?_
  intro a fa
  have had : a ≠ d := fun z => by subst z; rw [put_same] at fa; cases fa
  have atD : ∀ {u v : Cl}, put (put G d u) a v d = some u := fun {u v} => by rw [put_ne (Ne.symm had)]; exact put_same
  refine ⟨_, paper0 B.h0, ?_⟩
  show forS _ _ _ _ _ _ _
  refine for_op (I := fun i ρ G1 => ∃ (L : List D) (x6 x7 : Option D), ρ = [some m.d, some pr.d, some (paperD pp), some (natT ws), some (.ref d), some (.ref a), x6, x7] ∧ BoxP m.boxes pr.params ws hs (fun h => h ∈ hs.take i) L ∧ G1 = put (put G d (.dK (heldK pr.params ws))) a (.lst L)) ⟨_, _, _, rfl, ?_, rfl⟩ ?_ ?_
  · have e : (List.range m.boxes).map (fun _ => D.non) = List.replicate m.boxes .non := by
      rw [List.map_const', List.length_range]
    rw [e]
    exact BoxP.zero fun x _ h => by simp at h
  · rintro i x hx ρ G1 E ⟨L, x6, x7, rfl, hL, rfl⟩ eN eC eR eB eX
    obtain ⟨h, hh, rfl⟩ := get_map hx
    have hmem := List.mem_of_getElem? hh
    obtain ⟨k, hk⟩ := List.getElem?_of_mem (B.al h hmem)
    have hkl' := (List.getElem?_eq_some_iff.mp hk).1
    obtain ⟨n, hn⟩ : ∃ n, ws[k]? = some n := ⟨_, List.getElem?_eq_getElem (by rw [B.wl]; exact hkl')⟩
    refine ⟨trivial, rfl, _, _, atD, held_val B.nd hk hn, _, h.2, put_same, ixN_nat (by rw [hL.len]; exact B.ho.lt h hmem), ?_⟩
    rw [put_put]
    refine eN _ _ _ .refl ⟨_, _, _, rfl, (hL.step B.ho B.nd hmem hk hn).congr fun y _ => ?_, rfl⟩
    rw [← take_snoc hh, List.mem_append, List.mem_singleton]
  · rintro ρ G1 ⟨L, x6, x7, rfl, hL, rfl⟩
    rw [List.length_map, List.take_length] at hL
    refine ⟨trivial, a, _, rfl, put_same, ?_⟩
    rw [drop_put fa]
    exact ⟨_, Dn.new fd, q L (hL.congr fun y hy => ⟨fun _ => trivial, fun _ => hy⟩)⟩
set_option maxHeartbeats 0 in
theorem body_due : BodW [] [] dueBC 9 spBoxes := by
  rintro ds G Q xq ⟨m, pr, pp, hs, ws, rfl, B, q⟩
  have hb := B.b
  have hpl := B.pl
  refine ⟨sz3 1, fun c fc => ⟨_, rfl, _, put_same, by omega, by omega, Nat.le_trans (m := 100) (by simp; omega) (by decide), fun a fa => ?_⟩⟩
  have hac : a ≠ c := fun z => by subst z; rw [put_same] at fa; cases fa
  have e : (List.replicate ((m.boxes : Int)).toNat [D.non]).flatten = List.replicate m.boxes .non := by
    rw [show ((m.boxes : Int)).toNat = m.boxes by omega]
    simp
  rw [e]
  refine ⟨_, rfl, ?_⟩
  show forS _ _ _ _ (enumD (pr.params.map D.str)) _ _
  refine for_op (I := fun k ρ G1 => ∃ (L : List D) (x5 x6 x7 x8 : Option D), ρ = [some m.d, some pr.d, some (paperD pp), some (natT ws), some (.ref a), x5, x6, x7, x8] ∧ BoxP m.boxes pr.params ws hs (fun h => h.1 ∈ pr.params.take k) L ∧ G1 = put (put G c (.lst [.non])) a (.lst L)) ⟨_, _, _, _, _, rfl, BoxP.zero fun x _ h => by simp at h, rfl⟩ ?_ ?_
  · rintro k y hy ρ G1 E ⟨L, x5, x6, x7, x8, rfl, hL, rfl⟩ eN eC eR eB eX
    obtain ⟨d, hd, rfl⟩ := enum_get hy
    obtain ⟨nm, hnm, rfl⟩ := get_map hd
    have hkl := (List.getElem?_eq_some_iff.mp hnm).1
    obtain ⟨n, hn⟩ : ∃ n, ws[k]? = some n := ⟨_, List.getElem?_eq_getElem (by rw [B.wl]; exact hkl)⟩
    have hat : atI (ws.map natD) (k : Int) = some (natD n) := atI_nat (by rw [List.getElem?_map, hn]; rfl)
    refine ⟨trivial, rfl, _, paper0 B.h0, ?_⟩
    show forS _ _ _ _ _ _ _
    refine for_op (I := fun j ρ G1 => ∃ (L : List D) (x7 x8 : Option D), ρ = [some m.d, some pr.d, some (paperD pp), some (natT ws), some (.ref a), some (natD k), some (.str nm), x7, x8] ∧ BoxP m.boxes pr.params ws hs (fun h => h.1 ∈ pr.params.take k ∨ (h ∈ hs.take j ∧ h.1 = nm)) L ∧ G1 = put (put G c (.lst [.non])) a (.lst L)) ⟨L, _, _, rfl, hL.congr fun y _ => by simp, rfl⟩ ?_ ?_
    · rintro j x hx ρ G1 E2 ⟨L, x7, x8, rfl, hL, rfl⟩ fN fC fR fB fX
      obtain ⟨h, hh, rfl⟩ := get_map hx
      have hmem := List.mem_of_getElem? hh
      refine ⟨trivial, rfl, ?_⟩
      refine ite2 (fun h1 => ?_) (fun h1 => ?_)
      · have e1 : h.1 = nm := eq_of_beq h1
        refine ⟨_, hat, _, h.2, put_same, ixN_nat (by rw [hL.len]; exact B.ho.lt h hmem), ?_⟩
        rw [put_put]
        refine fN _ _ _ .refl ⟨_, _, _, rfl, (hL.step B.ho B.nd hmem (by rw [e1]; exact hnm) hn).congr fun y _ => ?_, rfl⟩
        rw [← take_snoc hh, List.mem_append, List.mem_singleton]
        constructor
        · rintro ((z | z) | rfl)
          · exact .inl z
          · exact .inr ⟨.inl z.1, z.2⟩
          · exact .inr ⟨.inr rfl, e1⟩
        · rintro (z | ⟨z | z, z2⟩)
          · exact .inl (.inl z)
          · exact .inl (.inr ⟨z, z2⟩)
          · exact .inr z
      · have e1 : h.1 ≠ nm := fun z => h1 (by rw [z]; exact beq_self_eq_true nm)
        refine fN _ _ _ .refl ⟨L, _, _, rfl, hL.congr fun y _ => ?_, rfl⟩
        rw [← take_snoc hh, List.mem_append, List.mem_singleton]
        constructor
        · rintro (z | z)
          · exact .inl z
          · exact .inr ⟨.inl z.1, z.2⟩
        · rintro (z | ⟨z | rfl, z2⟩)
          · exact .inl z
          · exact .inr ⟨z, z2⟩
          · exact (e1 z2).elim
    · rintro ρ G1 ⟨L, x7, x8, rfl, hL, rfl⟩
      rw [List.length_map, List.take_length] at hL
      refine ⟨trivial, eN _ _ _ .refl ⟨L, _, _, _, _, rfl, hL.congr fun y hy => ?_, rfl⟩⟩
      rw [← take_snoc hnm, List.mem_append, List.mem_singleton]
      constructor
      · rintro (z | z)
        · exact .inl z
        · exact .inr z.2
      · rintro (z | z)
        · exact .inl z
        · exact .inr ⟨hy, z⟩
  · rintro ρ G1 ⟨L, x5, x6, x7, x8, rfl, hL, rfl⟩
    rw [enumD_len, List.length_map, List.take_length] at hL
    refine ⟨trivial, a, _, rfl, put_same, ?_⟩
    rw [drop_put fa]
    exact ⟨_, Dn.new fc, q L (hL.congr fun y hy => ⟨fun _ => trivial, fun _ => B.al y hy⟩)⟩
end DL

namespace DL
open PySem PySem.Spec PyProof.Rows L2
/-! papers -/
def PaperOk (nb : Nat) (found : List (List Str)) (pp : List (List Home)) : Prop := pp.length = found.length ∧ ∀ (b : Nat) (ns : List Str) (hs : List Home), found[b]? = some ns → pp[b]? = some hs → hs.map (·.1) = ns ∧ HomesOk nb hs
theorem alive_len {p : Prog} {found : List (List Str)} (hF : p.Few) (h : AliveIs p found) {b : Nat} {ns : List Str} (hb : found[b]? = some ns) : ns.length < 64 ∧ ns.Nodup ∧ ∀ x ∈ ns, x ∈ p.names := by
  obtain ⟨i, m⟩ := h.2 b ns hb
  have hn := hF.nl
  have hl := (inc_nodup linS i).length_le_of_subset (l₂ := srtO ltS p.names) fun x hx => (mem_srtO linS).mpr ((m x).mp hx).name
  exact ⟨by omega, inc_nodup linS i, fun x hx => ((m x).mp hx).name⟩
def ixS (ts : List Str) (x : Str) : Nat := ts.findIdx fun y => decide (y = x)
theorem ixS_at {ts : List Str} {x : Str} (h : x ∈ ts) : ts[ixS ts x]? = some x := by
  have hl : ixS ts x < ts.length := List.findIdx_lt_length_of_exists ⟨x, h, by simp⟩
  rw [List.getElem?_eq_getElem hl]
  have := List.findIdx_getElem (w := hl)
  exact congrArg some (of_decide_eq_true this)
theorem strs_py (ts : List Str) : pyDs (ts.map D.str) = ts.map PyData.str := by
  induction ts with
  | nil => rfl
  | cons t ts ih =>
    rw [List.map_cons, List.map_cons]
    unfold pyDs
    rw [ih]
    rfl
/-- names.index(x) -/
theorem index_str {ts : List Str} {x : Str} {G : Sto} (h : x ∈ ts) (ok : ∀ t ∈ ts, PyData.strOk t = true) : Dds G (ts.map D.str) (pyDs (ts.map D.str)) ∧ Dd G (.str x) (.str x) ∧ SeqAt.shaped (.list (pyDs (ts.map D.str))) = true ∧ SeqAt.shaped (.str x) = true ∧ (pyDs (ts.map D.str))[ixS ts x]? = some (.str x) ∧ PyData.eqv (.str x) (.str x) = true ∧ ∀ (m : Nat) (z' : PyData), m < ixS ts x → (pyDs (ts.map D.str))[m]? = some z' → PyData.eqv z' (.str x) = false := by
  have hl : ixS ts x < ts.length := List.findIdx_lt_length_of_exists ⟨x, h, by simp⟩
  refine ⟨(okDs_dd (strs_ok 1 ok)).1, .str x, shaped_lst (strs_ok 1 ok) (by decide), shaped_of (d := .str x) (n := 1) (by unfold okD; exact ok x h) (by decide), ?_, ?_, fun m z hm hz => ?_⟩
  · rw [strs_py, List.getElem?_map, ixS_at h]
    rfl
  · simp [PyData.eqv]
  · rw [strs_py, List.getElem?_map] at hz
    have hml : m < ts.length := Nat.lt_trans hm hl
    rw [List.getElem?_eq_getElem hml] at hz
    obtain rfl := Option.some.inj hz
    have := List.not_of_lt_findIdx hm
    have hne : ts[m] ≠ x := by simpa using this
    show PyData.eqv (.str ts[m]) (.str x) = false
    simp [PyData.eqv, hne]
def homesOf (ts : List Str) (ns : List Str) : List Home := ns.map fun x => (x, ixS ts x)
theorem homesOf_ok {ts ns : List Str} (h : ∀ x ∈ ns, x ∈ ts) (hnd : ns.Nodup) (hl : ns.length ≤ 100) : (homesOf ts ns).map (·.1) = ns ∧ HomesOk ts.length (homesOf ts ns) := by
  refine ⟨?_, ?_, fun z hz => ?_, ?_⟩
  · unfold homesOf
    rw [List.map_map]
    exact List.map_id ns
  · unfold homesOf
    rw [List.map_map]
    refine List.pairwise_map.mpr (List.Pairwise.imp_of_mem (fun {a b} ha hb hne e => hne ?_) hnd)
    have e1 := ixS_at (h a ha)
    have e2 := ixS_at (h b hb)
    have e : ixS ts a = ixS ts b := e
    rw [e, e2] at e1
    exact (Option.some.inj e1).symm
  · obtain ⟨x, hx, rfl⟩ := List.mem_map.mp hz
    exact (List.getElem?_eq_some_iff.mp (ixS_at (h x hx))).1
  · unfold homesOf
    rw [List.length_map]
    exact hl
def sp_l_homes : DSp := fun ds G Q _ => ∃ (pr : Prog), ds = [pr.d] ∧ Good pr ∧ ∀ found, AliveIs pr found → Q (paperD (found.map (homesOf (srtO ltS pr.names)))) G
theorem len_l_homes : LenS sp_l_homes 1 := by rintro ds G Q xq ⟨pr, rfl, _⟩; rfl
theorem body_l_homes : Bod [sp_l_alive, sp_l_all_names] [] homesBC 4 sp_l_homes := by
  rintro ds G Q xq ⟨pr, rfl, g, q⟩
  refine ⟨pr, rfl, g.few, pr, rfl, g.led, g.few, fun found hf => ?_⟩
  have hbl := g.few.bl
  show lcS _ _ _ _ _ _ _ _ _
  refine lc_mapA strsD (fun ns => homesD (homesOf (srtO ltS pr.names) ns)) (xs := found) rfl (by rw [hf.1]; exact Nat.lt_of_le_of_lt hbl (by decide)) trivial (fun i ns hns K k => ?_) ?_
  · obtain ⟨h1, h2, h3⟩ := alive_len g.few hf hns
    show lcS _ _ _ _ _ _ _ _ _
    refine lc_mapA D.str (fun x => homeD (x, ixS (srtO ltS pr.names) x)) (xs := ns) rfl (Nat.lt_of_lt_of_le h1 (by decide)) trivial (fun i2 x hx K2 k2 => ?_) ?_
    · have hx' := (mem_srtO (lt := ltS) linS).mpr (h3 x (List.mem_of_getElem? hx))
      obtain ⟨a1, a2, a3, a4, a5, a6, a7⟩ := index_str (G := G) hx' (fun t ht => g.ok t ((mem_srtO linS).mp ht))
      exact ⟨rfl, _, _, _, _, a1, a2, a3, a4, a5, a6, a7, sz3 2, k2⟩
    · unfold homesD homesOf at k
      rw [List.map_map] at k
      exact k
  · have := q found hf
    unfold paperD at this
    rw [List.map_map] at this
    exact this
def sp_l_paper : DSp := fun ds G Q _ => ∃ (p : Addr) (s : Pn) (G0 : Sto) (m : Mach) (pr : Prog) (found : List (List Str)), ds = [.ref p, m.d, pr.d] ∧ G = put G0 p s.c ∧ Good pr ∧ AliveIs pr found ∧ m.boxes ≤ 12 ∧ s.at_ + 200 < 2 ^ 62 ∧ ∀ (d : D) (s' : Pn), s'.at_ ≤ s.at_ + 200 → (d = .non ∨ ∃ pp, PaperOk m.boxes found pp ∧ d = paperD pp) → Q d (put G0 p s'.c)
theorem len_l_paper : LenS sp_l_paper 3 := by rintro ds G Q xq ⟨p, s, G0, m, pr, found, rfl, _⟩; rfl
theorem perm_eraseN {y : Nat} : ∀ {left : List Nat} {k : Nat}, left[k]? = some y → (y :: left.eraseIdx k).Perm left := perm_erase
set_option maxHeartbeats 0 in
theorem body_l_paper : BodW [sp_l_alive, spDrawB] [] paperBC 7 sp_l_paper := by
  rintro ds G Q xq ⟨p, s, G0, m, pr, found, rfl, rfl, g, hf, hb, hs, q⟩
  have hbl := g.few.bl
  refine ⟨sz3 0, fun a fa => ?_⟩
  have hap : a ≠ p := fun z => by subst z; rw [put_same] at fa; cases fa
  have fa0 : G0 a = none := by rw [put_ne hap] at fa; exact fa
  have atA : ∀ {u v : Cl}, put (put G0 a u) p v a = some u := fun {u v} => by rw [put_ne hap]; exact put_same
  rw [put_comm (Ne.symm hap)]
  refine ⟨pr, rfl, g.led, g.few, fun f2 hf2 => ?_⟩
  rw [hf2.uniq hf]
  show forS _ _ _ _ _ _ _
  refine for_op (I := fun k ρ G1 => ∃ (pp : List (List Home)) (s4 : Pn) (x4 x5 : Option D), ρ = [some (.ref p), some m.d, some pr.d, some (.ref a), x4, x5, none] ∧ pp.length = k ∧ (∀ (b : Nat) (ns : List Str) (hs : List Home), found[b]? = some ns → pp[b]? = some hs → hs.map (·.1) = ns ∧ HomesOk m.boxes hs) ∧ s4.at_ ≤ s.at_ + 12 * k ∧ G1 = put (put G0 a (.lst (pp.map homesD))) p s4.c) ⟨[], s, _, _, rfl, rfl, fun b ns hs _ h => by simp at h, by omega, rfl⟩ ?_ ?_
  · rintro i x hx ρ G1 E ⟨pp, s4, x4, x5, rfl, hpl, hp, b4, rfl⟩ eN eC eR eB eX
    obtain ⟨ns, hns, rfl⟩ := get_map hx
    have hil := (List.getElem?_eq_some_iff.mp hns).1
    rw [hf.1] at hil
    obtain ⟨h64, hnd, _⟩ := alive_len g.few hf hns
    refine ⟨trivial, _, rfl, ⟨by omega, by omega⟩, iteY rfl fun l fl => ?_⟩
    have hlp : l ≠ p := fun z => by subst z; rw [put_same] at fl; cases fl
    have fl1 : put G0 a (.lst (pp.map homesD)) l = none := by rw [put_ne hlp] at fl; exact fl
    have hla : l ≠ a := fun z => by subst z; rw [put_same] at fl1; cases fl1
    have fl0 : G0 l = none := by rw [put_ne hla] at fl1; exact fl1
    rw [put_comm (Ne.symm hlp), show ((m.boxes : Int)).toNat = m.boxes by omega, rangeD_nat]
    have atL : ∀ {u v w : Cl}, put (put (put G0 a u) l v) p w l = some v := fun {u v w} => by rw [put_ne hlp]; exact put_same
    have atA2 : ∀ {u v w : Cl}, put (put (put G0 a u) l v) p w a = some u := fun {u v w} => by rw [put_ne hap, put_ne (Ne.symm hla)]; exact put_same
    have dn2 : ∀ {u v w : Cl}, Dn (put (put (put G0 a u) l v) p w) (put (put G0 a u) p w) := fun {u v w} => by
      rw [put_comm hlp]
      refine Dn.new ?_
      rw [put_ne hlp, put_ne hla]
      exact fl0
    have dn1 : ∀ {u w : Cl}, Dn (put (put G0 a u) p w) (put G0 p w) := fun {u w} => by
      rw [put_comm hap]
      exact Dn.new (by rw [put_ne hap]; exact fa0)
    refine ⟨_, atL, ?_⟩
    refine ite2 (fun h => ?_) (fun h => ?_)
    · exact eR _ _ ⟨_, dn2.trans dn1, q _ s4 (by omega) (.inl rfl)⟩
    · have hle : ns.length ≤ m.boxes := by
        have h' : ¬ (((ns.map D.str).length : Int) > (((List.range m.boxes).map natD).length : Int)) := fun z => h (decide_eq_true z)
        rw [List.length_map, List.length_map, List.length_range] at h'
        omega
      refine ⟨⟨rfl, _, atA2⟩, ?_⟩
      show lcS _ _ _ _ _ _ _ _ _
      refine lc_ix (I := fun k acc G1 => ∃ (hs : List Home) (left : List Nat) (s5 : Pn), acc = hs.map homeD ∧ hs.map (·.1) = ns.take k ∧ (hs.map (·.2) ++ left).Perm (List.range m.boxes) ∧ s5.at_ ≤ s4.at_ + k ∧ G1 = put (put (put G0 a (.lst (pp.map homesD))) l (.lst (left.map natD))) p s5.c) 0 ⟨[], List.range m.boxes, s4, rfl, rfl, List.Perm.refl _, by omega, rfl⟩ ?_ ?_
      · rintro k y hy acc G1 N ⟨hs, left, s5, rfl, hfst, hP, b5, rfl⟩ hN
        obtain ⟨t, ht, rfl⟩ := get_map hy
        rw [Nat.zero_add] at hfst b5 hN
        have hkl := (List.getElem?_eq_some_iff.mp ht).1
        have hlen := hP.length_eq
        have hl1 := congrArg List.length hfst
        rw [List.length_map, List.length_take] at hl1
        rw [List.length_append, List.length_map, List.length_range] at hlen
        have hl0 : 0 < left.length := by omega
        refine ⟨trivial, ⟨rfl, _, atL⟩, _, atL, ?_⟩
        refine ⟨p, s5, _, _, rfl, rfl, by rw [List.length_map]; omega, by rw [List.length_map]; omega, by omega, fun j s6 hj b6 => ?_⟩
        rw [List.length_map] at hj
        have hjl : j < left.length := by omega
        refine ⟨_, j, natD left[j], rfl, by omega, atL, by rw [List.getElem?_map, List.getElem?_eq_getElem hjl]; rfl, ?_⟩
        rw [put_mid2 hlp]
        refine ⟨sz3 2, by rw [List.length_map]; exact Nat.lt_of_le_of_lt (show _ ≤ 100 by omega) (by decide), hN _ _ ⟨hs ++ [(t, left[j])], left.eraseIdx j, s6, ?_, ?_, ?_, by omega, ?_⟩⟩
        · rw [List.map_append]
          rfl
        · rw [List.map_append, hfst, ← take_snoc ht]
          rfl
        · refine List.Perm.trans ?_ hP
          rw [List.map_append, List.append_assoc]
          exact List.Perm.append_left _ (perm_eraseN (List.getElem?_eq_getElem hjl))
        · rw [map_erase]
      · rintro acc G1 ⟨hs, left, s5, rfl, hfst, hP, b5, rfl⟩
        rw [Nat.zero_add, List.length_map, List.take_length] at hfst
        rw [Nat.zero_add, List.length_map] at b5
        refine ⟨trivial, _, atA2, by rw [List.length_map]; exact Nat.lt_of_le_of_lt (show _ ≤ 100 by omega) (by decide), ?_⟩
        rw [put_comm (Ne.symm hap), put_mid2 (Ne.symm hla)]
        have hok : HomesOk m.boxes hs := by
          have hn2 : (hs.map (·.2) ++ left).Nodup := hP.nodup_iff.mpr List.nodup_range
          have hl1 := congrArg List.length hfst
          rw [List.length_map] at hl1
          exact ⟨(List.nodup_append.mp hn2).1, fun z hz => List.mem_range.mp (hP.subset (List.mem_append_left _ (List.mem_map.mpr ⟨z, hz, rfl⟩))), by omega⟩
        refine eN _ _ _ dn2 ⟨pp ++ [hs], s5, _, _, rfl, by simp [hpl], fun b ns' hs' h1 h2 => ?_, by omega, ?_⟩
        · by_cases hbi : b < pp.length
          · rw [List.getElem?_append_left hbi] at h2
            exact hp b ns' hs' h1 h2
          · have hb' := (List.getElem?_eq_some_iff.mp h2).1
            rw [List.length_append, List.length_singleton] at hb'
            have e : b = pp.length := by omega
            subst e
            rw [List.getElem?_append_right (Nat.le_refl _), Nat.sub_self] at h2
            have h2 := Option.some.inj h2
            rw [hpl, hns] at h1
            have h1 := Option.some.inj h1
            subst h1 h2
            exact ⟨hfst, hok⟩
        · rw [List.map_append]
          rfl
  · rintro ρ G1 ⟨pp, s4, x4, x5, rfl, hpl, hp, b4, rfl⟩
    rw [List.length_map] at hpl b4
    rw [hf.1] at b4
    refine ⟨trivial, a, _, rfl, atA, ?_⟩
    rw [put_comm hap, drop_put (by rw [put_ne hap]; exact fa0)]
    exact .of (q _ s4 (by omega) (.inr ⟨pp, ⟨hpl, hp⟩, rfl⟩))
end DL

namespace DL
open PySem PySem.Spec PyProof.Rows L2
/-! what names have -/
abbrev Held := List (Str × Nat)
def getH (hv : Held) (x : Str) : Option Nat := (hv.find? fun z => decide (z.1 = x)).map (·.2)
def putH (hv : Held) (x : Str) (n : Nat) : Held := if (hv.any fun z => decide (z.1 = x)) = true then hv.map (fun z => if z.1 = x then (z.1, n) else z) else hv ++ [(x, n)]
def heldD (hv : Held) : List (Key × D) := hv.map fun z => (.inr z.1, natD z.2)
theorem inr_eq {a b : Str} : decide ((Sum.inr a : Key) = .inr b) = decide (a = b) := by
  by_cases h : a = b
  · subst h
    simp
  · simp [h]
theorem getH_d (hv : Held) (x : Str) : valD (heldD hv) (.inr x) = (getH hv x).map natD := by
  unfold valD heldD getH
  induction hv with
  | nil => rfl
  | cons z hv ih =>
    rw [List.map_cons, List.find?_cons, List.find?_cons]
    show Option.map _ (match decide ((Sum.inr z.1 : Key) = (Sum.inr x : Key)) with | true => some _ | false => _) = _
    rw [inr_eq]
    cases decide (z.1 = x) with
    | true => rfl
    | false => exact ih
theorem any_d (hv : Held) (x : Str) : ((heldD hv).any fun kv => decide (kv.1 = .inr x)) = hv.any fun z => decide (z.1 = x) := by
  unfold heldD
  rw [List.any_map]
  congr 1
  funext z
  exact inr_eq
theorem putH_d (hv : Held) (x : Str) (n : Nat) : putD (heldD hv) (.inr x) (natD n) = heldD (putH hv x n) := by
  unfold putD putH
  rw [any_d]
  by_cases h : (hv.any fun z => decide (z.1 = x)) = true
  · rw [if_pos h, if_pos h]
    unfold heldD
    rw [List.map_map, List.map_map]
    refine List.map_congr_left fun z _ => ?_
    show (if (Sum.inr z.1 : Key) = .inr x then _ else _) = _
    by_cases e : z.1 = x
    · rw [if_pos (by rw [e])]
      show _ = (fun z : Str × Nat => ((Sum.inr z.1 : Key), natD z.2)) (if z.1 = x then (z.1, n) else z)
      rw [if_pos e]
    · rw [if_neg (fun z => e (Sum.inr.inj z))]
      show _ = (fun z : Str × Nat => ((Sum.inr z.1 : Key), natD z.2)) (if z.1 = x then (z.1, n) else z)
      rw [if_neg e]
  · rw [if_neg h, if_neg h]
    unfold heldD
    rw [List.map_append]
    rfl
theorem getH_none {hv : Held} {x : Str} : getH hv x = none ↔ x ∉ hv.map (·.1) := by
  unfold getH
  rw [Option.map_eq_none_iff, List.find?_eq_none, List.mem_map]
  constructor
  · rintro h ⟨z, hz, e⟩
    exact h z hz (decide_eq_true e)
  · intro h z hz e
    exact h ⟨z, hz, of_decide_eq_true e⟩
theorem putH_keys (hv : Held) (x : Str) (n : Nat) : (putH hv x n).map (·.1) = if x ∈ hv.map (·.1) then hv.map (·.1) else hv.map (·.1) ++ [x] := by
  have e : (hv.any fun z => decide (z.1 = x)) = decide (x ∈ hv.map (·.1)) := by
    rw [Bool.eq_iff_iff, decide_eq_true_eq, List.any_eq_true, List.mem_map]
    constructor
    · rintro ⟨z, hz, e⟩
      exact ⟨z, hz, of_decide_eq_true e⟩
    · rintro ⟨z, hz, e⟩
      exact ⟨z, hz, decide_eq_true e⟩
  unfold putH
  rw [e]
  by_cases h : x ∈ hv.map (·.1)
  · rw [if_pos (decide_eq_true h), if_pos h, List.map_map]
    refine List.map_congr_left fun z _ => ?_
    show (if z.1 = x then (z.1, n) else z).1 = z.1
    split <;> rfl
  · rw [if_neg (by simpa using h), if_neg h, List.map_append]
    rfl
theorem putH_mem {hv : Held} {x y : Str} {n : Nat} : y ∈ (putH hv x n).map (·.1) ↔ y = x ∨ y ∈ hv.map (·.1) := by
  rw [putH_keys]
  split
  · rename_i h
    exact ⟨.inr, fun z => z.elim (fun e => e ▸ h) id⟩
  · rw [List.mem_append, List.mem_singleton]
    exact or_comm
def BelowH (hv : Held) : Prop := ∀ z ∈ hv, z.2 < 65536
theorem putH_below {hv : Held} (h : BelowH hv) {x : Str} {n : Nat} (hn : n < 65536) : BelowH (putH hv x n) := by
  intro z hz
  unfold putH at hz
  split at hz
  · obtain ⟨w, hw, rfl⟩ := List.mem_map.mp hz
    split
    · exact hn
    · exact h w hw
  · rcases List.mem_append.mp hz with hz | hz
    · exact h z hz
    · rw [List.mem_singleton.mp hz]
      exact hn
theorem getH_below {hv : Held} (h : BelowH hv) {x : Str} {n : Nat} (e : getH hv x = some n) : n < 65536 := by
  unfold getH at e
  obtain ⟨z, hz, rfl⟩ := Option.map_eq_some_iff.mp e
  exact h z (List.mem_of_find?_eq_some hz)
/-- what is kept of the names: each once, of these names, worths -/
structure HOkN (ts : List Str) (hv : Held) : Prop where
  nd : (hv.map (·.1)).Nodup
  sub : ∀ x ∈ hv.map (·.1), x ∈ ts
  bel : BelowH hv
theorem HOkN.put {ts : List Str} {hv : Held} (h : HOkN ts hv) {x : Str} (hx : x ∈ ts) {n : Nat} (hn : n < 65536) : HOkN ts (putH hv x n) := by
  refine ⟨?_, fun y hy => ?_, putH_below h.bel hn⟩
  · rw [putH_keys]
    split
    · exact h.nd
    · rename_i hh
      rw [List.nodup_append]
      exact ⟨h.nd, by simp, fun a ha b hb => by rw [List.mem_singleton.mp hb]; intro e; exact hh (e ▸ ha)⟩
  · rcases putH_mem.mp hy with rfl | hy
    · exact hx
    · exact h.sub y hy
theorem HOkN.len {ts : List Str} {hv : Held} (h : HOkN ts hv) : hv.length ≤ ts.length := by
  have := h.nd.length_le_of_subset (l₂ := ts) h.sub
  rwa [List.length_map] at this
end DL

namespace DL
open PySem PySem.Spec PyProof.Rows L2
/-! going row by row, in plain -/
theorem done_worth {d : Str} {a b : Int} (ha : Worth a) (hb : Worth b) : Worth (doneF d a b) := by
  unfold doneF
  split
  · exact mod_worth _
  split
  · exact mod_worth _
  split
  · exact mod_worth _
  split
  · exact both_worth ha hb
  split
  · exact odd_worth ha hb
  split
  · split <;> exact ⟨by decide, by decide⟩
  · split <;> exact ⟨by decide, by decide⟩
theorem nat_worth {n : Nat} (h : n < 65536) : Worth (n : Nat) := ⟨by omega, by omega⟩
def doneN (e : Str) (m n : Nat) : Nat := (doneF e m n).toNat
theorem doneN_lt {e : Str} {m n : Nat} (hm : m < 65536) (hn : n < 65536) : doneN e m n < 65536 := by
  have h := done_worth (d := e) (nat_worth hm) (nat_worth hn)
  have h1 := h.1
  have h2 := h.2
  unfold doneN
  omega
theorem doneN_d {e : Str} {m n : Nat} (hm : m < 65536) (hn : n < 65536) : D.int (doneF e m n) = natD (doneN e m n) := by
  have h := done_worth (d := e) (nat_worth hm) (nat_worth hn)
  have h1 := h.1
  unfold doneN natD
  rw [Int.toNat_of_nonneg h1]
def worthOf (hv : Held) : One → Option Nat
  | .nm x => getH hv x
  | .wo n => some n
def doRow (s : Held × List Nat) : Row → Option (Held × List Nat)
  | .set x e a b => match worthOf s.1 a, worthOf s.1 b with
    | some m, some n => some (putH s.1 x (doneN e m n), s.2)
    | _, _ => none
  | .copy x a => (worthOf s.1 a).map fun m => (putH s.1 x m, s.2)
  | .tell a => (worthOf s.1 a).map fun m => (s.1, s.2 ++ [m])
def doRows : List Row → Held × List Nat → Option (Held × List Nat)
  | [], s => some s
  | r :: rs, s => (doRow s r).bind (doRows rs)
def wayOf (hv : Held) : Exit → Option (Nat × Option Nat)
  | .fin => some (0, none)
  | .go b => some (0, some b)
  | .iff a b c => (worthOf hv a).map fun n => if n = 0 then (1, some c) else (0, some b)
theorem doRow_set {s : Held × List Nat} {x e : Str} {a b : One} {m n : Nat} (h1 : worthOf s.1 a = some m) (h2 : worthOf s.1 b = some n) : doRow s (.set x e a b) = some (putH s.1 x (doneN e m n), s.2) := by
  show (match worthOf s.1 a, worthOf s.1 b with | some m, some n => some (putH s.1 x (doneN e m n), s.2) | _, _ => none) = _
  rw [h1, h2]
theorem doRow_copy {s : Held × List Nat} {x : Str} {a : One} {m : Nat} (h1 : worthOf s.1 a = some m) : doRow s (.copy x a) = some (putH s.1 x m, s.2) := by
  show (worthOf s.1 a).map _ = _
  rw [h1]
  rfl
theorem doRow_tell {s : Held × List Nat} {a : One} {m : Nat} (h1 : worthOf s.1 a = some m) : doRow s (.tell a) = some (s.1, s.2 ++ [m]) := by
  show (worthOf s.1 a).map _ = _
  rw [h1]
  rfl
structure RS where
  hv : Held
  said : List Nat
  path : List (Nat × Nat)
  at_ : Option Nat
def goTh (bl : Blok) (s : Held × List Nat) : Option ((Held × List Nat) × Nat × Option Nat) := (doRows bl.1 s).bind fun s1 => (wayOf s1.1 bl.2).map fun w => (s1, w)
def stepT (p : Prog) (s : RS) : RS := match s.at_ with
  | none => s
  | some b => match p.blocks[b]? with
    | none => s
    | some bl => match goTh bl (s.hv, s.said) with
      | none => s
      | some (s1, w, nx) => ⟨s1.1, s1.2, s.path ++ [(b, w)], nx⟩
def runN (p : Prog) : Nat → RS → RS
  | 0, s => s
  | k + 1, s => stepT p (runN p k s)
def start (p : Prog) (ws : List Nat) : RS := ⟨p.params.zip ws, [], [], some 0⟩
theorem stepT_none {p : Prog} {s : RS} (h : s.at_ = none) : stepT p s = s := by
  unfold stepT
  rw [h]
theorem runN_none {p : Prog} {s : RS} {k : Nat} (h : (runN p k s).at_ = none) : ∀ j, runN p (k + j) s = runN p k s
  | 0 => rfl
  | j + 1 => by
    show stepT p (runN p (k + j) s) = _
    rw [runN_none h j, stepT_none h]
/-- what is kept while going -/
structure InvR (p : Prog) (ts : List Str) (s : RS) : Prop where
  hv : HOkN ts s.hv
  at_ : ∀ b, s.at_ = some b → b < p.blocks.length ∧ ∀ x, x ∉ s.hv.map (·.1) → b ∈ unsetB p x
theorem worth_some {ts : List Str} {hv : Held} (h : HOkN ts hv) {o : One} (ho : OneOk ts o) (hs : ∀ x ∈ o.names, x ∈ hv.map (·.1)) : ∃ n, worthOf hv o = some n ∧ n < 65536 := by
  cases o with
  | nm x =>
    cases e : getH hv x with
    | none => exact (getH_none.mp e (hs x (List.mem_singleton.mpr rfl))).elim
    | some n => exact ⟨n, e, getH_below h.bel e⟩
  | wo n => exact ⟨n, rfl, ho⟩
theorem onesN_mem {os : List One} {o : One} (h : o ∈ os) {x : Str} (hx : x ∈ o.names) : x ∈ onesN os := List.mem_flatMap.mpr ⟨o, h, hx⟩
theorem doRow_some {ts : List Str} {s : Held × List Nat} (h : HOkN ts s.1) {r : Row} (hr : RowOk ts r) (hs : ∀ x ∈ r.reads, x ∈ s.1.map (·.1)) :
    ∃ s', doRow s r = some s' ∧ HOkN ts s'.1 ∧ (∀ x, x ∈ s'.1.map (·.1) ↔ x ∈ r.sets ∨ x ∈ s.1.map (·.1)) ∧ s'.2.length ≤ s.2.length + 1 := by
  cases r with
  | set x e a b =>
    obtain ⟨m, em, hm⟩ := worth_some h hr.2.2.1 fun y hy => hs y (onesN_mem (os := [a, b]) (by simp) hy)
    obtain ⟨n, en, hn⟩ := worth_some h hr.2.2.2 fun y hy => hs y (onesN_mem (os := [a, b]) (by simp) hy)
    refine ⟨_, doRow_set em en, h.put hr.1 (doneN_lt hm hn), fun y => ?_, Nat.le_succ _⟩
    rw [putH_mem, show (Row.set x e a b).sets = [x] from rfl, List.mem_singleton]
  | copy x a =>
    obtain ⟨m, em, hm⟩ := worth_some h hr.2 fun y hy => hs y (onesN_mem (os := [a]) (by simp) hy)
    refine ⟨_, doRow_copy em, h.put hr.1 hm, fun y => ?_, Nat.le_succ _⟩
    rw [putH_mem, show (Row.copy x a).sets = [x] from rfl, List.mem_singleton]
  | tell a =>
    obtain ⟨m, em, hm⟩ := worth_some h hr fun y hy => hs y (onesN_mem (os := [a]) (by simp) hy)
    refine ⟨_, doRow_tell em, h, fun y => ?_, by simp⟩
    rw [show (Row.tell a).sets = [] from rfl]
    simp
theorem doRows_some {p : Prog} (hU : UnsetIs p none) {ts : List Str} {b : Nat} {bl : Blok} (hb : p.blocks[b]? = some bl) {s0 : Held × List Nat} (hro : ∀ r ∈ bl.1, RowOk ts r) (h0 : ∀ x, x ∉ s0.1.map (·.1) → b ∈ unsetB p x) :
    ∀ (rs : List Row) (i : Nat) (s : Held × List Nat), bl.1.drop i = rs → HOkN ts s.1 → (∀ x, x ∉ s.1.map (·.1) → x ∉ s0.1.map (·.1) ∧ ((bl.1.take i).any fun l => setsB (.row l) x) = false) →
    ∃ s', doRows rs s = some s' ∧ HOkN ts s'.1 ∧ (∀ x, x ∉ s'.1.map (·.1) → x ∉ s0.1.map (·.1) ∧ setsIn x bl = false) ∧ s'.2.length ≤ s.2.length + rs.length
  | [], i, s, hd, hk, hs => by
    refine ⟨s, rfl, hk, fun x hx => ⟨(hs x hx).1, ?_⟩, Nat.le_refl _⟩
    have := (hs x hx).2
    rw [List.take_of_length_le (by simpa using hd)] at this
    exact this
  | r :: rs, i, s, hd, hk, hs => by
    have hi : bl.1[i]? = some r := by
      have : (bl.1.drop i)[0]? = some r := by rw [hd]; rfl
      rwa [List.getElem?_drop, Nat.add_zero] at this
    have hil := (List.getElem?_eq_some_iff.mp hi).1
    have hd' : bl.1.drop (i + 1) = rs := by
      rw [← List.drop_drop, hd]
      rfl
    obtain ⟨s1, e1, k1, m1, l1⟩ := doRow_some hk (hro r (List.mem_of_getElem? hi)) fun x hx => by
      refine Classical.byContradiction fun hn => ?_
      obtain ⟨n1, n2⟩ := hs x hn
      rcases hU with ⟨_, hU⟩ | ⟨_, _, z, _⟩
      · refine hU b i ⟨bl, .row r, x, hb, ?_, hx, ?_⟩
        · unfold linesOf
          rw [List.getElem?_append_left (by rw [List.length_map]; exact hil), List.getElem?_map, hi]
          rfl
        · unfold hitB noneAhead
          rw [decide_eq_true (h0 x n1)]
          unfold linesOf
          rw [List.take_append_of_le_length (by rw [List.length_map]; omega), ← List.map_take, List.any_map]
          show (true && !((bl.1.take i).any fun l => setsB (.row l) x)) = true
          rw [n2]
          rfl
      · cases z
    obtain ⟨s', e2, k2, m2, l2⟩ := doRows_some hU hb hro h0 rs (i + 1) s1 hd' k1 fun x hx => by
      have hn := fun z => hx ((m1 x).mpr z)
      obtain ⟨n1, n2⟩ := hs x fun z => hn (.inr z)
      refine ⟨n1, ?_⟩
      rw [List.take_add_one, hi, List.any_append, n2]
      show (false || (setsB (.row r) x || false)) = false
      rw [Bool.or_false, Bool.false_or]
      unfold setsB
      rw [Bool.eq_false_iff]
      intro z
      rw [List.any_eq_true] at z
      obtain ⟨y, hy, e⟩ := z
      have : y = x := eq_of_beq e
      exact hn (.inl (this ▸ hy))
    refine ⟨s', ?_, k2, m2, ?_⟩
    · show (doRow s r).bind (doRows rs) = _
      rw [e1]
      exact e2
    · rw [List.length_cons]
      omega
theorem goTh_some {p : Prog} (hU : UnsetIs p none) {ts : List Str} (hO : ProgOk ts p) {s : RS} (I : InvR p ts s) {b : Nat} (hat : s.at_ = some b) {bl : Blok} (hb : p.blocks[b]? = some bl) :
    ∃ s1 w nx, goTh bl (s.hv, s.said) = some (s1, w, nx) ∧ InvR p ts ⟨s1.1, s1.2, s.path ++ [(b, w)], nx⟩ ∧ s1.2.length ≤ s.said.length + 6 ∧ doRows bl.1 (s.hv, s.said) = some s1 ∧ wayOf s1.1 bl.2 = some (w, nx) := by
  have hm := List.mem_of_getElem? hb
  obtain ⟨s1, e1, k1, m1, l1⟩ := doRows_some hU hb (s0 := (s.hv, s.said)) (hO.ro bl hm) (I.at_ b hat).2 bl.1 0 (s.hv, s.said) rfl I.hv fun x hx => ⟨hx, rfl⟩
  have hx := hO.ex bl hm
  have hread : ∀ x ∈ bl.2.reads, x ∈ s1.1.map (·.1) := fun x hx => by
    refine Classical.byContradiction fun hn => ?_
    obtain ⟨n1, n2⟩ := m1 x hn
    rcases hU with ⟨_, hU⟩ | ⟨_, _, z, _⟩
    · refine hU b bl.1.length ⟨bl, .ex bl.2, x, hb, ?_, hx, ?_⟩
      · unfold linesOf
        rw [List.getElem?_append_right (by rw [List.length_map]; omega), List.length_map, Nat.sub_self]
        rfl
      · unfold hitB noneAhead
        rw [decide_eq_true ((I.at_ b hat).2 x n1)]
        unfold linesOf
        rw [List.take_append_of_le_length (by rw [List.length_map]; omega), ← List.map_take, List.take_length, List.any_map]
        show (true && !(bl.1.any fun l => setsB (.row l) x)) = true
        rw [show (bl.1.any fun l => setsB (.row l) x) = false from n2]
        rfl
    · cases z
  have next : ∀ c, c ∈ bl.2.led → c < p.blocks.length → c < p.blocks.length ∧ ∀ x, x ∉ s1.1.map (·.1) → c ∈ unsetB p x := fun c hc hl => by
    refine ⟨hl, fun x hn => ?_⟩
    obtain ⟨n1, n2⟩ := m1 x hn
    have hbu := (I.at_ b hat).2 x n1
    by_cases hp : x ∈ p.params
    · unfold unsetB at hbu
      rw [if_pos hp] at hbu
      cases hbu
    · exact (unsetB_closed hO.led hp).2 b hbu bl hb n2 c hc
  have hlen : s1.2.length ≤ s.said.length + 6 := by
    have := hO.rl bl hm
    have l2 : s1.2.length ≤ s.said.length + bl.1.length := l1
    omega
  obtain ⟨w, nx, ew, hn⟩ : ∃ w nx, wayOf s1.1 bl.2 = some (w, nx) ∧ ∀ c, nx = some c → c < p.blocks.length ∧ ∀ x, x ∉ s1.1.map (·.1) → c ∈ unsetB p x := by
    obtain ⟨rows, ex⟩ := bl
    cases ex with
    | fin => exact ⟨0, none, rfl, fun c z => by cases z⟩
    | go c => exact ⟨0, some c, rfl, fun d z => by cases z; exact next c (by show c ∈ [c]; simp) hx⟩
    | iff a c d =>
      obtain ⟨n, en, hn⟩ := worth_some k1 hx.1 fun y hy => hread y (onesN_mem (os := [a]) (by simp) hy)
      have e : wayOf s1.1 (.iff a c d) = some (if n = 0 then (1, some d) else (0, some c)) := by
        show (worthOf s1.1 a).map _ = _
        rw [en]
        rfl
      by_cases hz : n = 0
      · rw [if_pos hz] at e
        exact ⟨_, _, e, fun f z => by cases z; exact next d (by show d ∈ [c, d]; simp) hx.2.2⟩
      · rw [if_neg hz] at e
        exact ⟨_, _, e, fun f z => by cases z; exact next c (by show c ∈ [c, d]; simp) hx.2.1⟩
  refine ⟨s1, w, nx, ?_, ⟨k1, hn⟩, hlen, e1, ew⟩
  unfold goTh
  rw [e1]
  show (wayOf s1.1 bl.2).map _ = _
  rw [ew]
  rfl
theorem step_some {p : Prog} (hU : UnsetIs p none) {ts : List Str} (hO : ProgOk ts p) {s : RS} (I : InvR p ts s) {b : Nat} (hat : s.at_ = some b) :
    ∃ bl s1 w nx, p.blocks[b]? = some bl ∧ doRows bl.1 (s.hv, s.said) = some s1 ∧ wayOf s1.1 bl.2 = some (w, nx) ∧ stepT p s = ⟨s1.1, s1.2, s.path ++ [(b, w)], nx⟩ ∧ InvR p ts (stepT p s) ∧ s1.2.length ≤ s.said.length + 6 := by
  have hbl := (I.at_ b hat).1
  obtain ⟨bl, hb⟩ : ∃ bl, p.blocks[b]? = some bl := ⟨_, List.getElem?_eq_getElem hbl⟩
  obtain ⟨s1, w, nx, e1, i1, l1, e2, e3⟩ := goTh_some hU hO I hat hb
  have e : stepT p s = ⟨s1.1, s1.2, s.path ++ [(b, w)], nx⟩ := by
    unfold stepT
    rw [hat]
    show (match p.blocks[b]? with | none => s | some bl => _) = _
    rw [hb]
    show (match goTh bl (s.hv, s.said) with | none => s | some (s1, w, nx) => _) = _
    rw [e1]
  refine ⟨bl, s1, w, nx, hb, e2, e3, e, by rw [e]; exact i1, l1⟩
theorem zip_keys : ∀ {ps : List Str} {ws : List Nat}, ws.length = ps.length → (ps.zip ws).map (·.1) = ps
  | [], [], _ => rfl
  | [], w :: ws, h => by simp at h
  | p :: ps, [], h => by simp at h
  | p :: ps, w :: ws, h => congrArg (p :: ·) (zip_keys (ps := ps) (ws := ws) (by simpa using h))
theorem start_inv {p : Prog} {ts : List Str} (hO : ProgOk ts p) {ws : List Nat} (hl : ws.length = p.params.length) (hw : ∀ n ∈ ws, n < 65536) : InvR p ts (start p ws) := by
  have hk : (start p ws).hv.map (·.1) = p.params := zip_keys hl
  obtain ⟨j, _, hj⟩ := hO.ps
  refine ⟨⟨?_, fun x hx => ?_, fun z hz => hw _ (List.of_mem_zip hz).2⟩, fun b e => ?_⟩
  · rw [hk, hj]
    exact hO.ns.nd.sublist (List.take_sublist _ _)
  · rw [hk, hj] at hx
    exact List.mem_of_mem_take hx
  · cases e
    refine ⟨hO.b1, fun x hx => ?_⟩
    rw [hk] at hx
    exact (unsetB_closed hO.led hx).1
theorem runN_inv {p : Prog} (hU : UnsetIs p none) {ts : List Str} (hO : ProgOk ts p) {ws : List Nat} (hl : ws.length = p.params.length) (hw : ∀ n ∈ ws, n < 65536) : ∀ k, InvR p ts (runN p k (start p ws)) ∧ (runN p k (start p ws)).path.length ≤ k ∧ ((runN p k (start p ws)).at_ ≠ none → (runN p k (start p ws)).path.length = k) ∧ (runN p k (start p ws)).said.length ≤ 6 * k
  | 0 => ⟨start_inv hO hl hw, Nat.le_refl _, fun _ => rfl, Nat.le_refl _⟩
  | k + 1 => by
    obtain ⟨i, h1, h2, h3⟩ := runN_inv hU hO hl hw k
    show InvR p ts (stepT p (runN p k (start p ws))) ∧ (stepT p (runN p k (start p ws))).path.length ≤ k + 1 ∧ ((stepT p (runN p k (start p ws))).at_ ≠ none → (stepT p (runN p k (start p ws))).path.length = k + 1) ∧ (stepT p (runN p k (start p ws))).said.length ≤ 6 * (k + 1)
    cases e : (runN p k (start p ws)).at_ with
    | none =>
      rw [stepT_none e]
      exact ⟨i, by omega, fun z => (z e).elim, by omega⟩
    | some b =>
      obtain ⟨bl, s1, w, nx, g1, g2, g3, g4, g5, g6⟩ := step_some hU hO i e
      have h2 := h2 (by rw [e]; simp)
      refine ⟨g5, ?_, fun _ => ?_, ?_⟩
      · rw [g4]; simp; omega
      · rw [g4]; simp; omega
      · rw [g4]
        show s1.2.length ≤ _
        omega
end DL

namespace DL
open PySem PySem.Spec PyProof.Rows L2
/-- done: slots 0 deed 1 a 2 b; calls ; names MOST -/
def p_doneC : CB := (.cons (.ifs (.cmp .Eq (.var 0) (.str "add")) (.cons (.ret (.bin .Mod (.addv (.var 1) (.var 2)) (.glb 0))) .nil) .nil) (.cons (.ifs (.cmp .Eq (.var 0) (.str "less")) (.cons (.ret (.bin .Mod (.bin .Sub (.var 1) (.var 2)) (.glb 0))) .nil) .nil) (.cons (.ifs (.cmp .Eq (.var 0) (.str "times")) (.cons (.ret (.bin .Mod (.bin .Mult (.var 1) (.var 2)) (.glb 0))) .nil) .nil) (.cons (.ifs (.cmp .Eq (.var 0) (.str "both")) (.cons (.ret (.bin .BitAnd (.var 1) (.var 2))) .nil) .nil) (.cons (.ifs (.cmp .Eq (.var 0) (.str "odd")) (.cons (.ret (.bin .BitXor (.var 1) (.var 2))) .nil) .nil) (.cons (.ifs (.cmp .Eq (.var 0) (.str "same")) (.cons (.ret (.blt .int (.cons (.cmp .Eq (.var 1) (.var 2)) .nil))) .nil) .nil) (.cons (.ret (.blt .int (.cons (.cmp .Lt (.var 1) (.var 2)) .nil))) .nil)))))))
/-- PlainRun.__init__: slots 0 self 1 program 2 worths; calls ; names PlainRun -/
def p_PlainRun___init__C : CB := (.cons (.fldset 0 "program" (.var 0) (.var 1)) (.cons (.fldset 0 "held" (.var 0) (.dzip (.ix (.var 1) (.int 0)) (.var 2))) (.cons (.fldset 0 "said" (.var 0) (.lst .nil)) .nil)))
/-- PlainRun.worth_of: slots 0 self 1 one; calls ; names PlainRun -/
def p_PlainRun_worth_ofC : CB := (.cons (.ifs (.val (.blt .isi (.cons (.var 1) (.cons (.tn .str) .nil)))) (.cons (.ret (.ix (.fld 0 (.var 0) "held") (.var 1))) .nil) .nil) (.cons (.ret (.var 1)) .nil))
/-- PlainRun.do_row: slots 0 self 1 row; calls done PlainRun.worth_of; names PlainRun -/
def p_PlainRun_do_rowC : CB := (.cons (.ifs (.cmp .Eq (.ix (.var 1) (.int 0)) (.str "set")) (.cons (.asg (.sub (.fld 0 (.var 0) "held") (.ix (.var 1) (.int 1))) (.fn 0 (.cons (.ix (.var 1) (.int 2)) (.cons (.meth 1 0 "worth_of" (.var 0) (.cons (.ix (.var 1) (.int 3)) .nil)) (.cons (.meth 1 0 "worth_of" (.var 0) (.cons (.ix (.var 1) (.int 4)) .nil)) .nil))))) .nil) (.cons (.ifs (.cmp .Eq (.ix (.var 1) (.int 0)) (.str "copy")) (.cons (.asg (.sub (.fld 0 (.var 0) "held") (.ix (.var 1) (.int 1))) (.meth 1 0 "worth_of" (.var 0) (.cons (.ix (.var 1) (.int 2)) .nil))) .nil) (.cons (.expr (.mt .append (.fld 0 (.var 0) "said") (.cons (.meth 1 0 "worth_of" (.var 0) (.cons (.ix (.var 1) (.int 1)) .nil)) .nil))) .nil)) .nil)) .nil)
/-- PlainRun.go_through: slots 0 self 1 block 2 row 3 way 4 rows 5 exit_row; calls PlainRun.worth_of PlainRun.do_row; names PlainRun -/
def p_PlainRun_go_throughC : CB := (.cons (.asg (.tup 2 (.cons (.name 4) (.cons (.name 5) .nil))) (.ix (.ix (.fld 0 (.var 0) "program") (.int 1)) (.var 1))) (.cons (.fors (.name 2) (.it (.var 4)) (.cons (.expr (.meth 1 0 "do_row" (.var 0) (.cons (.var 2) .nil))) .nil)) (.cons (.ifs (.cmp .Eq (.ix (.var 5) (.int 0)) (.str "end")) (.cons (.ret (.tup (.cons (.int 0) (.cons .non .nil)))) .nil) .nil) (.cons (.ifs (.cmp .Eq (.ix (.var 5) (.int 0)) (.str "go")) (.cons (.ret (.tup (.cons (.int 0) (.cons (.ix (.var 5) (.int 1)) .nil)))) .nil) .nil) (.cons (.asg (.name 3) (.blt .int (.cons (.cmp .Eq (.meth 0 0 "worth_of" (.var 0) (.cons (.ix (.var 5) (.int 1)) .nil)) (.int 0)) .nil))) (.cons (.ret (.tup (.cons (.var 3) (.cons (.ix (.var 5) (.addv (.int 2) (.var 3))) .nil)))) .nil))))))
/-- plain_run: slots 0 program 1 worths 2 most 3 run 4 path 5 block 6 way 7 behind; calls PlainRun.go_through PlainRun.__init__; names PlainRun -/
def p_plain_runC : CB := (.cons (.asg (.name 3) (.mk 1 0 (.cons (.var 0) (.cons (.var 1) .nil)))) (.cons (.asg (.name 4) (.lst .nil)) (.cons (.asg (.name 5) (.int 0)) (.cons (.whil (.and (.cmp .IsNot (.var 5) .non) (.cmp .Lt (.blt .len (.cons (.var 4) .nil)) (.var 2))) (.cons (.asg (.tup 2 (.cons (.name 6) (.cons (.name 7) .nil))) (.meth 0 0 "go_through" (.var 3) (.cons (.var 5) .nil))) (.cons (.expr (.mt .append (.var 4) (.cons (.tup (.cons (.var 5) (.cons (.var 6) .nil))) .nil))) (.cons (.asg (.name 5) (.var 7)) .nil)))) (.lk 4 (.cons (.ret (.tup (.cons (.frz (.fld 0 (.var 3) "said")) (.cons (.blt .tuple (.cons (.var 4) .nil)) (.cons (.cmp .Is (.var 5) .non) .nil))))) .nil))))))
end DL

namespace DL
open PySem PySem.Spec PyProof.Rows L2
theorem body_doneH : Bod [] [.int 65536] p_doneC 3 spDone := by
  rintro ds G Q xq ⟨d, a, b, rfl, ha, hb, q⟩
  unfold doneF at q
  have M : (0 : Int) < 65536 := by decide
  refine ite2 (fun h => ?_) (fun h => ?_)
  · rw [if_pos h] at q; exact ⟨M, q⟩
  rw [if_neg h] at q
  refine ite2 (fun h => ?_) (fun h => ?_)
  · rw [if_pos h] at q; exact ⟨M, q⟩
  rw [if_neg h] at q
  refine ite2 (fun h => ?_) (fun h => ?_)
  · rw [if_pos h] at q; exact ⟨mulL (by have := ha.1; omega) (by have := ha.2; omega), M, q⟩
  rw [if_neg h] at q
  refine ite2 (fun h => ?_) (fun h => ?_)
  · rw [if_pos h] at q; exact q
  rw [if_neg h] at q
  refine ite2 (fun h => ?_) (fun h => ?_)
  · rw [if_pos h] at q; exact q
  rw [if_neg h] at q
  refine ite2 (fun h => ?_) (fun h => ?_)
  · rw [if_pos h] at q; exact q
  rw [if_neg h] at q
  exact q
theorem len_doneH : LenS spDone 3 := by rintro ds G Q xq ⟨d, a, b, rfl, _⟩; rfl
/-! the object -/
def obF (p : Prog) (h t : Addr) : List (Str × D) := [("program", p.d), ("held", .ref h), ("said", .ref t)]
def obG (G0 : Sto) (C dx a h t : Addr) (p : Prog) (hv : Held) (said : List Nat) : Sto := put (put (put G0 a (.ins C dx (obF p h t))) h (.dK (heldD hv))) t (.lst (said.map natD))
structure Ap (a h t : Addr) : Prop where
  ha : h ≠ a
  ta : t ≠ a
  th : t ≠ h
section
variable {G0 : Sto} {C dx a h t : Addr} {p : Prog} {hv hv' : Held} {said said' : List Nat}
theorem ob_a (A : Ap a h t) : obG G0 C dx a h t p hv said a = some (.ins C dx (obF p h t)) := by
  unfold obG
  rw [put_ne (Ne.symm A.ta), put_ne (Ne.symm A.ha)]
  exact put_same
theorem ob_h (A : Ap a h t) : obG G0 C dx a h t p hv said h = some (.dK (heldD hv)) := by
  unfold obG
  rw [put_ne (Ne.symm A.th)]
  exact put_same
theorem ob_t : obG G0 C dx a h t p hv said t = some (.lst (said.map natD)) := put_same
theorem ob_putH (A : Ap a h t) : put (obG G0 C dx a h t p hv said) h (.dK (heldD hv')) = obG G0 C dx a h t p hv' said := by
  unfold obG
  rw [put_comm A.th, put_put]
theorem ob_putT : put (obG G0 C dx a h t p hv said) t (.lst (said'.map natD)) = obG G0 C dx a h t p hv said' := put_put
theorem ob_program : (obF p h t).lookup ("program" : Str) = some p.d := rfl
theorem ob_held : (obF p h t).lookup ("held" : Str) = some (.ref h) := rfl
theorem ob_said : (obF p h t).lookup ("said" : Str) = some (.ref t) := rfl
theorem ob_worth : (obF p h t).lookup ("worth_of" : Str) = none := rfl
theorem ob_row : (obF p h t).lookup ("do_row" : Str) = none := rfl
theorem ob_go : (obF p h t).lookup ("go_through" : Str) = none := rfl
end
def spWorthOf (C : Addr) : DSp := fun ds G Q _ => ∃ G0 dx a h t p hv said, ∃ (o : One) (n : Nat), ds = [.ref a, o.d] ∧ Ap a h t ∧ G = obG G0 C dx a h t p hv said ∧ worthOf hv o = some n ∧ Q (natD n) G
theorem len_worthOf {C : Addr} : LenS (spWorthOf C) 2 := by rintro ds G Q xq ⟨G0, dx, a, h, t, p, hv, said, o, n, rfl, _⟩; rfl
theorem body_worthOf {C : Addr} : Bod [] [.ref C] p_PlainRun_worth_ofC 2 (spWorthOf C) := by
  rintro ds G Q xq ⟨G0, dx, a, h, t, p, hv, said, o, n, rfl, A, rfl, e, q⟩
  cases o with
  | nm x => exact ⟨_, rfl, a, dx, _, _, rfl, ob_a A, ob_held, _, _, ob_h A, by rw [getH_d, show getH hv x = some n from e]; rfl, q⟩
  | wo m =>
    cases e
    exact ⟨_, rfl, q⟩
def spRow (C : Addr) : DSp := fun ds G Q _ => ∃ G0 dx a h t p hv said, ∃ (ts : List Str) (r : Row) (s' : Held × List Nat), ds = [.ref a, r.d] ∧ Ap a h t ∧ G = obG G0 C dx a h t p hv said ∧ HOkN ts hv ∧ ts.length ≤ 1000 ∧ RowOk ts r ∧ said.length < 1000000 ∧ doRow (hv, said) r = some s' ∧ Q .non (obG G0 C dx a h t p s'.1 s'.2)
theorem len_row {C : Addr} : LenS (spRow C) 2 := by rintro ds G Q xq ⟨G0, dx, a, h, t, p, hv, said, ts, r, s', rfl, _⟩; rfl
theorem heldD_len {ts : List Str} {hv : Held} (h : HOkN ts hv) (hl : ts.length ≤ 1000) : (heldD hv).length < sizeLine := by
  have := h.len
  unfold heldD
  rw [List.length_map]
  exact Nat.lt_of_le_of_lt (m := 1000) (by omega) (by decide)
theorem one_lt {ts : List Str} {hv : Held} (h : HOkN ts hv) {o : One} (ho : OneOk ts o) {n : Nat} (e : worthOf hv o = some n) : n < 65536 := by
  cases o with
  | nm x => exact getH_below h.bel e
  | wo m => cases e; exact ho
set_option maxHeartbeats 0 in
theorem body_row {C : Addr} : Bod [spDone, spWorthOf C] [.ref C] p_PlainRun_do_rowC 2 (spRow C) := by
  rintro ds G Q xq ⟨G0, dx, a, h, t, p, hv, said, ts, r, s', rfl, A, rfl, hk, hts, hr, hl, e, q⟩
  cases r with
  | set x d o1 o2 =>
    cases e1 : worthOf hv o1 with
    | none => exfalso; have e : (match worthOf hv o1, worthOf hv o2 with | some m, some n => some (putH hv x (doneN d m n), said) | _, _ => none) = some s' := e; rw [e1] at e; cases e
    | some m =>
      cases e2 : worthOf hv o2 with
      | none => exfalso; have e : (match worthOf hv o1, worthOf hv o2 with | some m, some n => some (putH hv x (doneN d m n), said) | _, _ => none) = some s' := e; rw [e1, e2] at e; cases e
      | some n =>
        rw [doRow_set (s := (hv, said)) e1 e2] at e
        cases e
        have hm := one_lt hk hr.2.2.1 e1
        have hn := one_lt hk hr.2.2.2 e2
        refine ⟨_, rfl, _, rfl, a, dx, _, rfl, ob_a A, ob_worth, _, rfl, ?_⟩
        refine ⟨G0, dx, a, h, t, p, hv, said, o1, m, rfl, A, rfl, e1, ?_⟩
        refine ⟨a, dx, _, rfl, ob_a A, ob_worth, _, rfl, ?_⟩
        refine ⟨G0, dx, a, h, t, p, hv, said, o2, n, rfl, A, rfl, e2, ?_⟩
        refine ⟨_, _, _, rfl, nat_worth hm, nat_worth hn, ?_⟩
        refine ⟨a, dx, _, _, rfl, ob_a A, ob_held, _, rfl, _, ob_h A, heldD_len hk hts, ?_⟩
        rw [doneN_d hm hn, putH_d, ob_putH A]
        exact q
  | copy x o1 =>
    cases e1 : worthOf hv o1 with
    | none => exfalso; have e : (worthOf hv o1).map (fun m => (putH hv x m, said)) = some s' := e; rw [e1] at e; cases e
    | some m =>
      rw [doRow_copy (s := (hv, said)) e1] at e
      cases e
      refine ⟨_, rfl, ?_⟩
      refine ⟨_, rfl, a, dx, _, rfl, ob_a A, ob_worth, _, rfl, ?_⟩
      refine ⟨G0, dx, a, h, t, p, hv, said, o1, m, rfl, A, rfl, e1, ?_⟩
      refine ⟨a, dx, _, _, rfl, ob_a A, ob_held, _, rfl, _, ob_h A, heldD_len hk hts, ?_⟩
      rw [putH_d, ob_putH A]
      exact q
  | tell o1 =>
    cases e1 : worthOf hv o1 with
    | none => exfalso; have e : (worthOf hv o1).map (fun m => (hv, said ++ [m])) = some s' := e; rw [e1] at e; cases e
    | some m =>
      rw [doRow_tell (s := (hv, said)) e1] at e
      cases e
      refine ⟨_, rfl, ?_⟩
      refine ⟨_, rfl, a, dx, _, _, rfl, ob_a A, ob_said, ?_⟩
      refine ⟨⟨rfl, _, ob_t⟩, a, dx, _, rfl, ob_a A, ob_worth, _, rfl, ?_⟩
      refine ⟨G0, dx, a, h, t, p, hv, said, o1, m, rfl, A, rfl, e1, ?_⟩
      refine ⟨_, ob_t, by rw [List.length_map]; exact Nat.lt_trans hl (by decide), ?_⟩
      rw [show said.map natD ++ [natD m] = (said ++ [m]).map natD by simp, ob_putT]
      exact q
end DL

namespace DL
open PySem PySem.Spec PyProof.Rows L2
def optD : Option Nat → D
  | none => .non
  | some n => natD n
def spGo (C : Addr) : DSp := fun ds G Q _ => ∃ G0 dx a h t p hv said, ∃ (ts : List Str) (b : Nat) (bl : Blok) (s' : Held × List Nat) (w : Nat) (nx : Option Nat), ds = [.ref a, natD b] ∧ Ap a h t ∧ G = obG G0 C dx a h t p hv said ∧ p.blocks[b]? = some bl ∧
  (∀ (i : Nat) (r : Row), bl.1[i]? = some r → ∃ s1, doRows (bl.1.take i) (hv, said) = some s1 ∧ HOkN ts s1.1 ∧ s1.2.length < 1000000) ∧ ts.length ≤ 1000 ∧ bl.1.length ≤ 1000 ∧ (∀ r ∈ bl.1, RowOk ts r) ∧ doRows bl.1 (hv, said) = some s' ∧ wayOf s'.1 bl.2 = some (w, nx) ∧ Q (.tup [natD w, optD nx]) (obG G0 C dx a h t p s'.1 s'.2)
theorem len_go {C : Addr} : LenS (spGo C) 2 := by rintro ds G Q xq ⟨G0, dx, a, h, t, p, hv, said, ts, b, bl, s', w, nx, rfl, _⟩; rfl
theorem doRows_snoc : ∀ {rs : List Row} {r : Row} {s : Held × List Nat}, doRows (rs ++ [r]) s = (doRows rs s).bind fun s1 => doRow s1 r
  | [], r, s => by
    show (doRow s r).bind (doRows []) = doRow s r
    cases doRow s r <;> rfl
  | r0 :: rs, r, s => by
    show (doRow s r0).bind (doRows (rs ++ [r])) = ((doRow s r0).bind (doRows rs)).bind _
    cases doRow s r0 with
    | none => rfl
    | some s1 => exact doRows_snoc
theorem doRows_take {rs : List Row} {s s' : Held × List Nat} (h : doRows rs s = some s') : ∀ i, ∃ s1, doRows (rs.take i) s = some s1 := by
  intro i
  have e : rs = rs.take i ++ rs.drop i := (List.take_append_drop i rs).symm
  have ap : ∀ (l l' : List Row) (s : Held × List Nat), doRows (l ++ l') s = (doRows l s).bind (doRows l') := by
    intro l
    induction l with
    | nil => intro l' s; rfl
    | cons r l ih =>
      intro l' s
      show (doRow s r).bind (doRows (l ++ l')) = ((doRow s r).bind (doRows l)).bind _
      cases doRow s r with
      | none => rfl
      | some s1 => exact ih l' s1
  rw [e, ap] at h
  cases e1 : doRows (rs.take i) s with
  | none => rw [e1] at h; cases h
  | some s1 => exact ⟨s1, rfl⟩
theorem iff0 (n : Nat) : ((natD n) = (.int 0) ↔ n = 0) := by
  unfold natD
  constructor
  · intro h
    have : (n : Int) = 0 := D.int.inj h
    omega
  · rintro rfl
    rfl
set_option maxHeartbeats 0 in
theorem body_go {C : Addr} : Bod [spWorthOf C, spRow C] [.ref C] p_PlainRun_go_throughC 6 (spGo C) := by
  rintro ds G Q xq ⟨G0, dx, a, h, t, p, hv, said, ts, b, bl, s', w, nx, rfl, A, rfl, hb, hst, hts, hbl, hro, er, ew, q⟩
  have hat : atI (p.blocks.map blokD) (b : Int) = some (blokD bl) := atI_nat (by rw [List.getElem?_map, hb]; rfl)
  refine ⟨a, dx, _, _, rfl, ob_a A, ob_program, _, rfl, _, hat, rfl, ?_⟩
  show forS _ _ _ _ _ _ _
  refine for_op (I := fun i ρ G1 => ∃ (s1 : Held × List Nat) (x2 : Option D), ρ = [some (.ref a), some (natD b), x2, none, some (.tup (bl.1.map Row.d)), some bl.2.d] ∧ doRows (bl.1.take i) (hv, said) = some s1 ∧ G1 = obG G0 C dx a h t p s1.1 s1.2) ⟨_, _, rfl, rfl, rfl⟩ ?_ ?_
  · rintro i x hx ρ G1 E ⟨s1, x2, rfl, e1, rfl⟩ eN eC eR eB eX
    obtain ⟨r, hr, rfl⟩ := get_map hx
    obtain ⟨s2, e2, k2, l2⟩ := hst i r hr
    rw [e1] at e2
    cases e2
    obtain ⟨s3, e3⟩ := doRows_take er (i + 1)
    have e4 : doRow s1 r = some s3 := by
      rw [← take_snoc hr, doRows_snoc, e1] at e3
      exact e3
    refine ⟨trivial, a, dx, _, rfl, ob_a A, ob_row, ?_⟩
    refine ⟨G0, dx, a, h, t, p, s1.1, s1.2, ts, r, s3, rfl, A, rfl, k2, hts, hro r (List.mem_of_getElem? hr), l2, e4, ?_⟩
    exact eN _ _ _ .refl ⟨s3, _, rfl, by rw [← take_snoc hr, doRows_snoc, e1]; exact e4, rfl⟩
  · rintro ρ G1 ⟨s1, x2, rfl, e1, rfl⟩
    rw [List.length_map, List.take_length, er] at e1
    cases e1
    refine ⟨trivial, ?_⟩
    obtain ⟨rows, ex⟩ := bl
    cases ex with
    | fin =>
      cases ew
      exact ⟨_, rfl, sz3 2, q⟩
    | go c =>
      cases ew
      exact ⟨_, rfl, _, rfl, _, rfl, sz3 2, q⟩
    | iff o c d =>
      have ew : (worthOf s'.1 o).map (fun n => if n = 0 then (1, some d) else (0, some c)) = some (w, nx) := ew
      cases en : worthOf s'.1 o with
      | none => rw [en] at ew; cases ew
      | some n =>
        rw [en] at ew
        refine ⟨_, rfl, _, rfl, a, dx, _, rfl, ob_a A, ob_worth, _, rfl, ?_⟩
        refine ⟨G0, dx, a, h, t, p, s'.1, s'.2, o, n, rfl, A, rfl, en, ?_⟩
        by_cases hz : n = 0
        · subst hz
          have e2 : (w, nx) = (1, some d) := (Option.some.inj ew).symm
          cases e2
          exact ⟨_, rfl, sz3 2, q⟩
        · have e2 : (w, nx) = (0, some c) := by
            have this : (if n = 0 then (1, some d) else (0, some c)) = (w, nx) := Option.some.inj ew
            rw [if_neg hz] at this
            exact this.symm
          cases e2
          cases n with
          | zero => exact (hz rfl).elim
          | succ n => exact ⟨_, rfl, sz3 2, q⟩
/-! __init__ -/
def spInit (C : Addr) : DSp := fun ds G Q _ => ∃ G0 dx a, ∃ (p : Prog) (ws : List Nat), ds = [.ref a, p.d, natT ws] ∧ G = put G0 a (.ins C dx []) ∧ p.params.Nodup ∧ p.params.length ≤ 100 ∧ ws.length = p.params.length ∧ ∀ h t, Ap a h t → G0 h = none → G0 t = none → Q .non (obG G0 C dx a h t p (p.params.zip ws) [])
theorem len_init {C : Addr} : LenS (spInit C) 3 := by rintro ds G Q xq ⟨G0, dx, a, p, ws, rfl, _⟩; rfl
set_option maxHeartbeats 0 in
theorem body_init {C : Addr} : Bod [] [.ref C] p_PlainRun___init__C 3 (spInit C) := by
  rintro ds G Q xq ⟨G0, dx, a, p, ws, rfl, rfl, nd, pl, wl, q⟩
  obtain ⟨k1, k2⟩ := held_keys wl
  have hkl : (heldK p.params ws).length = p.params.length := by
    unfold heldK
    rw [List.length_map, List.length_zip, wl, Nat.min_self]
  have hmer : mergeD [] (heldK p.params ws) = heldK p.params ws := by
    have := mergeD_app (heldK p.params ws) [] (by rw [held_fst wl]; exact unlike_of nd) (fun kv h => (List.not_mem_nil h).elim)
    rwa [List.nil_append] at this
  refine ⟨a, dx, _, rfl, put_same, by decide, ?_⟩
  rw [put_put]
  refine ⟨_, rfl, heldK p.params ws, k1.symm, k2.symm, by rw [hkl]; omega, fun h fh => ?_⟩
  rw [hmer]
  have ha : h ≠ a := fun z => by subst z; rw [put_same] at fh; cases fh
  rw [put_ne ha] at fh
  refine ⟨a, dx, [("program", p.d)], rfl, by rw [put_ne (Ne.symm ha)]; exact put_same, (by show 1 < 1000; decide), ?_⟩
  refine ⟨sz3 0, fun t ft => ?_⟩
  have ta : t ≠ a := fun z => by subst z; rw [put_same] at ft; cases ft
  rw [put_ne ta] at ft
  have th : t ≠ h := fun z => by subst z; rw [put_same] at ft; cases ft
  rw [put_ne th, put_ne ta] at ft
  refine ⟨a, dx, [("program", p.d), ("held", .ref h)], rfl, by rw [put_ne (Ne.symm ta)]; exact put_same, (by show 2 < 1000; decide), ?_⟩
  have e : put (put (put (put (put G0 a (.ins C dx (putFD "program" p.d []))) h (.dK (heldK p.params ws))) a (.ins C dx (putFD "held" (.ref h) (putFD "program" p.d [])))) t (.lst [])) a (.ins C dx (putFD "said" (.ref t) (putFD "held" (.ref h) (putFD "program" p.d [])))) = obG G0 C dx a h t p (p.params.zip ws) [] := by
    rw [put_comm ta, put_put, put_comm (Ne.symm ha), put_put]
    unfold obG
    rw [put_comm (Ne.symm ha)]
    rfl
  exact Eq.mpr (congrArg (Q .non) e) (q h t ⟨ha, ta, th⟩ fh ft)
theorem doRow_ok {ts : List Str} {s s' : Held × List Nat} {r : Row} (h : doRow s r = some s') (hk : HOkN ts s.1) (hr : RowOk ts r) : HOkN ts s'.1 ∧ s'.2.length ≤ s.2.length + 1 := by
  cases r with
  | set x d o1 o2 =>
    have h : (match worthOf s.1 o1, worthOf s.1 o2 with | some m, some n => some (putH s.1 x (doneN d m n), s.2) | _, _ => none) = some s' := h
    cases e1 : worthOf s.1 o1 with
    | none => rw [e1] at h; cases h
    | some m =>
      cases e2 : worthOf s.1 o2 with
      | none => rw [e1, e2] at h; cases h
      | some n =>
        rw [e1, e2] at h
        cases h
        exact ⟨hk.put hr.1 (doneN_lt (one_lt hk hr.2.2.1 e1) (one_lt hk hr.2.2.2 e2)), Nat.le_succ _⟩
  | copy x o1 =>
    have h : (worthOf s.1 o1).map (fun m => (putH s.1 x m, s.2)) = some s' := h
    cases e1 : worthOf s.1 o1 with
    | none => rw [e1] at h; cases h
    | some m =>
      rw [e1] at h
      cases h
      exact ⟨hk.put hr.1 (one_lt hk hr.2 e1), Nat.le_succ _⟩
  | tell o1 =>
    have h : (worthOf s.1 o1).map (fun m => (s.1, s.2 ++ [m])) = some s' := h
    cases e1 : worthOf s.1 o1 with
    | none => rw [e1] at h; cases h
    | some m =>
      rw [e1] at h
      cases h
      exact ⟨hk, by simp⟩
theorem doRows_ok {ts : List Str} : ∀ {rs : List Row} {s s' : Held × List Nat}, doRows rs s = some s' → HOkN ts s.1 → (∀ r ∈ rs, RowOk ts r) → HOkN ts s'.1 ∧ s'.2.length ≤ s.2.length + rs.length
  | [], s, s', h, hk, _ => by cases h; exact ⟨hk, Nat.le_refl _⟩
  | r :: rs, s, s', h, hk, hr => by
    have h : (doRow s r).bind (doRows rs) = some s' := h
    cases e : doRow s r with
    | none => rw [e] at h; cases h
    | some s1 =>
      rw [e] at h
      obtain ⟨k1, l1⟩ := doRow_ok e hk (hr r List.mem_cons_self)
      obtain ⟨k2, l2⟩ := doRows_ok (rs := rs) (s := s1) h k1 fun r' h' => hr r' (List.mem_cons_of_mem _ h')
      exact ⟨k2, by rw [List.length_cons]; omega⟩
/-! plain_run -/
def pairN (z : Nat × Nat) : D := .tup [natD z.1, natD z.2]
def runD (s : RS) : D := .tup [.rl (s.said.map natD), .tup (s.path.map pairN), .bl (s.at_.isNone)]
def spPlain : DSp := fun ds G Q _ => ∃ (p : Prog) (ts : List Str) (ws : List Nat) (most : Nat), ds = [p.d, natT ws, natD most] ∧ ProgOk ts p ∧ UnsetIs p none ∧ ws.length = p.params.length ∧ (∀ n ∈ ws, n < 65536) ∧ most ≤ 10000 ∧ Q (runD (runN p most (start p ws))) G
theorem len_plain : LenS spPlain 3 := by rintro ds G Q xq ⟨p, ts, ws, m, rfl, _⟩; rfl
theorem NmsOk.len14 {ts : List Str} (h : NmsOk 14 ts) : ts.length ≤ 14 := h.len
set_option maxHeartbeats 0 in
theorem body_plain {C : Addr} : BodW [spGo C, spInit C] [.ref C] p_plain_runC 8 spPlain := by
  rintro ds G Q xq ⟨p, ts, ws, most, rfl, hO, hU, wl, hw, hm, q⟩
  obtain ⟨j, hj, hps⟩ := hO.ps
  have nd : p.params.Nodup := by rw [hps]; exact hO.ns.nd.sublist (List.take_sublist _ _)
  have pl := hO.few.pl
  intro a dx fa
  refine ⟨G, dx, a, p, ws, rfl, rfl, nd, by omega, wl, fun h t A fh ft => ⟨rfl, ?_⟩⟩
  refine ⟨sz3 0, fun c fc => ?_⟩
  have key : ∀ {hv : Held} {said : List Nat} {y : Addr}, obG G C dx a h t p hv said y = none → y ≠ a ∧ y ≠ h ∧ y ≠ t ∧ G y = none := fun {hv said y} e => by
    have h1 : y ≠ t := fun z => by subst z; rw [ob_t] at e; cases e
    have h2 : y ≠ h := fun z => by subst z; rw [ob_h A] at e; cases e
    have h3 : y ≠ a := fun z => by subst z; rw [ob_a A] at e; cases e
    unfold obG at e
    rw [put_ne h1, put_ne h2, put_ne h3] at e
    exact ⟨h3, h2, h1, e⟩
  obtain ⟨ca, ch, ct, fc0⟩ := key fc
  have swap : ∀ (hv : Held) (said : List Nat) (l : Cl), put (obG G C dx a h t p hv said) c l = obG (put G c l) C dx a h t p hv said := fun hv said l => by
    unfold obG
    rw [put_comm (Ne.symm ct), put_comm (Ne.symm ch), put_comm (Ne.symm ca)]
  have atC : ∀ (hv : Held) (said : List Nat), obG G C dx a h t p hv said c = none := fun hv said => by
    unfold obG
    rw [put_ne ct, put_ne ch, put_ne ca]
    exact fc0
  have fin : ∀ (st : RS) (x6 x7 : Option D), st = runN p most (start p ws) → denB [spGo C, spInit C] [.ref C] (p_plain_runC.drop 4) (Fin0 (WQ Q) (WX xq)) [some p.d, some (natT ws), some (natD most), some (.ref a), some (.ref c), some (optD st.at_), x6, x7] (put (obG G C dx a h t p st.hv st.said) c (.lst (st.path.map pairN))) := by
    rintro st x6 x7 e
    rw [← e] at q
    refine ⟨c, _, rfl, put_same, ?_⟩
    rw [drop_put (atC _ _)]
    refine ⟨a, dx, _, _, rfl, ob_a A, ob_said, _, ob_t, ?_⟩
    have dn : Dn (drop (obG G C dx a h t p st.hv st.said) t) G := by
      unfold obG
      rw [drop_put (by rw [put_ne A.th, put_ne A.ta]; exact ft)]
      exact (Dn.new (by rw [put_ne A.ha]; exact fh)).trans (Dn.new fa)
    obtain ⟨hv, said, path, at_⟩ := st
    cases at_ with
    | none => exact ⟨sz3 3, G, dn, q⟩
    | some b => exact ⟨sz3 3, G, dn, q⟩
  show sWhile _ _ _ _ _
  refine while_op (W := fun m ρ G1 => ∃ k, k ≤ most ∧ m = most - k ∧ (runN p k (start p ws)).path.length = k ∧ (∃ x6 x7, ρ = [some p.d, some (natT ws), some (natD most), some (.ref a), some (.ref c), some (optD (runN p k (start p ws)).at_), x6, x7]) ∧ G1 = put (obG G C dx a h t p (runN p k (start p ws)).hv (runN p k (start p ws)).said) c (.lst ((runN p k (start p ws)).path.map pairN))) (m0 := most) ?_ ?_
  · exact ⟨0, by omega, rfl, rfl, ⟨_, _, rfl⟩, rfl⟩
  rintro m ρ G1 E ⟨k, hk, rfl, hpl, ⟨x6, x7, rfl⟩, rfl⟩ eN eC eR eB eX
  obtain ⟨inv, l1, l2, l3⟩ := runN_inv hU hO wl hw k
  have nxt : runN p (k + 1) (start p ws) = stepT p (runN p k (start p ws)) := rfl
  have stay : (runN p k (start p ws)).at_ = none → runN p k (start p ws) = runN p most (start p ws) := fun e => by
    have := runN_none e (most - k)
    rw [show k + (most - k) = most by omega] at this
    exact this.symm
  have full : k = most → runN p k (start p ws) = runN p most (start p ws) := fun e => by rw [e]
  generalize runN p k (start p ws) = st at *
  obtain ⟨hv, said, path, at_⟩ := st
  cases at_ with
  | none => exact fin ⟨hv, said, path, none⟩ x6 x7 (stay rfl)
  | some b =>
    have hpl : path.length = k := hpl
    have l3 : said.length ≤ 6 * k := l3
    refine ⟨_, put_same, ?_⟩
    refine ite2 (fun hlt => ?_) (fun hlt => ?_)
    · have hlt : k < most := by
        have := of_decide_eq_true hlt
        rw [List.length_map, hpl] at this
        omega
      obtain ⟨bl, s1, w, nx, g1, g2, g3, g4, g5, g6⟩ := step_some hU hO inv rfl
      have hm1 := List.mem_of_getElem? g1
      refine ⟨a, dx, _, rfl, by rw [put_ne (Ne.symm ca)]; exact ob_a A, ob_go, ?_⟩
      rw [swap]
      refine ⟨put G c _, dx, a, h, t, p, hv, said, ts, b, bl, s1, w, nx, rfl, A, rfl, g1, ?_, Nat.le_trans hO.ns.len (by decide), Nat.le_trans (hO.rl bl hm1) (by decide), hO.ro bl hm1, g2, g3, ?_⟩
      · intro i r hr
        obtain ⟨s2, e2⟩ := doRows_take g2 i
        obtain ⟨k2, l2⟩ := doRows_ok (rs := bl.1.take i) (s := (hv, said)) e2 inv.hv fun r hr => hO.ro bl hm1 r (List.mem_of_mem_take hr)
        refine ⟨s2, e2, k2, ?_⟩
        have l2 : s2.2.length ≤ said.length + (bl.1.take i).length := l2
        have := hO.rl bl hm1
        rw [List.length_take] at l2
        omega
      · rw [← swap]
        refine ⟨rfl, ⟨rfl, _, put_same⟩, sz3 2, _, put_same, by rw [List.length_map, hpl]; exact Nat.lt_of_le_of_lt (m := 10000) (by omega) (by decide), ?_⟩
        rw [put_put]
        refine eN (most - (k + 1)) _ _ _ (by omega) .refl ⟨k + 1, hlt, rfl, ?_, ⟨some (natD w), some (optD nx), ?_⟩, ?_⟩
        · rw [nxt, g4]
          simp [hpl]
        · rw [nxt, g4]
          rfl
        · rw [nxt, g4]
          show put _ c (.lst (path.map pairN ++ [pairN (b, w)])) = put _ c (.lst ((path ++ [(b, w)]).map pairN))
          rw [List.map_append]
          rfl
    · refine fin ⟨hv, said, path, some b⟩ x6 x7 (full ?_)
      have : ¬ (((path.map pairN).length : Int) < most) := fun z => hlt (decide_eq_true z)
      rw [List.length_map, hpl] at this
      omega
end DL

namespace DL
open PySem PySem.Spec PyProof.Rows L2
theorem ne_rlS {xs ys : List D} {G : Sto} {Q : DQ} {n : Nat} (e : xs = ys) (h : okDs n ys = true) (hn : n ≤ 63) (q : Q (.bl false) G) : neD (.rl xs) (.rl ys) G Q := by
  subst e
  refine ne_rl h h hn ?_
  rw [eqvs_refl]
  exact q
theorem ne_tupS {xs ys : List D} {G : Sto} {Q : DQ} {n : Nat} (e : xs = ys) (h : okDs n ys = true) (hn : n ≤ 63) (q : Q (.bl false) G) : neD (.tup xs) (.tup ys) G Q := by
  subst e
  refine ne_tup h h hn ?_
  rw [eqvs_refl]
  exact q
theorem nats_ok (ns : List Nat) (n : Nat) : okDs n (ns.map natD) = true := okDs_mem.mpr fun d hd => by
  obtain ⟨m, _, rfl⟩ := List.mem_map.mp hd
  cases n <;> rfl
theorem pairs_ok (ns : List (Nat × Nat)) (n : Nat) : okDs (n + 1) (ns.map pairN) = true := okDs_mem.mpr fun d hd => by
  obtain ⟨m, _, rfl⟩ := List.mem_map.mp hd
  cases n <;> rfl
theorem at_last {α : Type} (xs : List α) (x : α) : atI (xs ++ [x]) (-1) = some x := by
  unfold atI ixN
  rw [List.length_append, List.length_singleton]
  rw [if_neg (by decide), if_pos (by omega)]
  show (xs ++ [x])[_]? = _
  rw [show ((-1 : Int) + ((xs.length + 1 : Nat) : Int)).toNat = xs.length by omega]
  simp
/-! _law_block_told -/
def rTold : Row → Option One
  | .tell a => some a
  | _ => none
def Told (os : List One) (ns : List Nat) : Prop := ns.length = os.length ∧ ∀ (i n : Nat), os[i]? = some (One.wo n) → ns[i]? = some n
theorem doRows_told : ∀ {rs : List Row} {s s' : Held × List Nat}, doRows rs s = some s' → ∃ new, s'.2 = s.2 ++ new ∧ Told (rs.filterMap rTold) new
  | [], s, s', h => by
    cases h
    exact ⟨[], by simp, rfl, fun i n z => by simp at z⟩
  | r :: rs, s, s', h => by
    have h : (doRow s r).bind (doRows rs) = some s' := h
    cases e : doRow s r with
    | none => rw [e] at h; cases h
    | some s1 =>
      rw [e] at h
      obtain ⟨new, e2, t1, t2⟩ := doRows_told (rs := rs) (s := s1) h
      cases r with
      | set x d o1 o2 =>
        have e : (match worthOf s.1 o1, worthOf s.1 o2 with | some m, some n => some (putH s.1 x (doneN d m n), s.2) | _, _ => none) = some s1 := e
        have : s1.2 = s.2 := by
          split at e
          · cases e; rfl
          · cases e
        exact ⟨new, by rw [e2, this], t1, t2⟩
      | copy x o1 =>
        have e : (worthOf s.1 o1).map (fun m => (putH s.1 x m, s.2)) = some s1 := e
        have : s1.2 = s.2 := by
          cases e1 : worthOf s.1 o1 with
          | none => rw [e1] at e; cases e
          | some m => rw [e1] at e; cases e; rfl
        exact ⟨new, by rw [e2, this], t1, t2⟩
      | tell o1 =>
        have e : (worthOf s.1 o1).map (fun m => (s.1, s.2 ++ [m])) = some s1 := e
        cases e1 : worthOf s.1 o1 with
        | none => rw [e1] at e; cases e
        | some m =>
          rw [e1] at e
          cases e
          refine ⟨m :: new, by rw [e2]; simp, ?_, fun i n hi => ?_⟩
          · show _ = (o1 :: rs.filterMap rTold).length
            rw [List.length_cons, List.length_cons, t1]
          · have hi : (o1 :: rs.filterMap rTold)[i]? = some (One.wo n) := hi
            cases i with
            | zero =>
              cases hi
              have : m = n := (Option.some.inj e1).symm
              subst this
              rfl
            | succ i => exact t2 i n hi
def rTellB (r : Row) : Bool := (rTold r).isSome
def rTellD (r : Row) : D := match rTold r with
  | some a => a.d
  | none => .non
theorem tells_eq (rs : List Row) : (rs.filter rTellB).map rTellD = (rs.filterMap rTold).map One.d := by
  induction rs with
  | nil => rfl
  | cons r rs ih => cases r <;> simp [List.filter_cons, List.filterMap_cons, rTellB, rTellD, rTold, ih]
end DL

namespace K48
open PySem PySem.Spec PyProof.Rows L2 DL
def top (i : Nat) : Stmt := PySem.Challenge.pw_movebeats_k48_whole_plain_runs_go_on.main.body.getD i (.Pass ⟨0, 0, 0, 0⟩)
def clsB : Stmt → List Stmt
  | .ClassDef (body := b) .. => b
  | _ => []
abbrev s_p_done : Stmt := top 2
abbrev n_p_done : List Str := ["deed", "a", "b"]
theorem sc_p_done : FnScope n_p_done ["deed", "a", "b"] (defScope s_p_done) := ⟨rfl, rfl, rfl, by decide +kernel, rfl, by decide +kernel, by decide +kernel⟩
def c_p_done : CB := (.cons (.ifs (.cmp .Eq (.var 0) (.str "add")) (.cons (.ret (.bin .Mod (.addv (.var 1) (.var 2)) (.glb 0))) .nil) .nil) (.cons (.ifs (.cmp .Eq (.var 0) (.str "less")) (.cons (.ret (.bin .Mod (.bin .Sub (.var 1) (.var 2)) (.glb 0))) .nil) .nil) (.cons (.ifs (.cmp .Eq (.var 0) (.str "times")) (.cons (.ret (.bin .Mod (.bin .Mult (.var 1) (.var 2)) (.glb 0))) .nil) .nil) (.cons (.ifs (.cmp .Eq (.var 0) (.str "both")) (.cons (.ret (.bin .BitAnd (.var 1) (.var 2))) .nil) .nil) (.cons (.ifs (.cmp .Eq (.var 0) (.str "odd")) (.cons (.ret (.bin .BitXor (.var 1) (.var 2))) .nil) .nil) (.cons (.ifs (.cmp .Eq (.var 0) (.str "same")) (.cons (.ret (.blt .int (.cons (.cmp .Eq (.var 1) (.var 2)) .nil))) .nil) .nil) (.cons (.ret (.blt .int (.cons (.cmp .Lt (.var 1) (.var 2)) .nil))) .nil)))))))
abbrev f_p_done : List Str := []
abbrev g_p_done : List Str := ["MOST"]
abbrev b_p_done : List Str := ["int"]
theorem ch_p_done : chkB ⟨n_p_done, defScope s_p_done, none, f_p_done, g_p_done, b_p_done⟩ c_p_done (defBody s_p_done) = true := by decide +kernel
abbrev s_p_PlainRun___init__ : Stmt := (clsB (top 4)).getD 0 (.Pass ⟨0, 0, 0, 0⟩)
abbrev n_p_PlainRun___init__ : List Str := ["self", "program", "worths"]
theorem sc_p_PlainRun___init__ : FnScope n_p_PlainRun___init__ ["self", "program", "worths"] (defScope s_p_PlainRun___init__) := ⟨rfl, rfl, rfl, by decide +kernel, rfl, by decide +kernel, by decide +kernel⟩
def c_p_PlainRun___init__ : CB := (.cons (.fldset 0 "program" (.var 0) (.var 1)) (.cons (.fldset 0 "held" (.var 0) (.dzip (.ix (.var 1) (.int 0)) (.var 2))) (.cons (.fldset 0 "said" (.var 0) (.lst .nil)) .nil)))
abbrev f_p_PlainRun___init__ : List Str := []
abbrev g_p_PlainRun___init__ : List Str := ["PlainRun"]
abbrev b_p_PlainRun___init__ : List Str := ["PlainRun.said", "PlainRun.held", "dict", "zip", "PlainRun.program"]
theorem ch_p_PlainRun___init__ : chkB ⟨n_p_PlainRun___init__, defScope s_p_PlainRun___init__, none, f_p_PlainRun___init__, g_p_PlainRun___init__, b_p_PlainRun___init__⟩ c_p_PlainRun___init__ (defBody s_p_PlainRun___init__) = true := by decide +kernel
abbrev s_p_PlainRun_worth_of : Stmt := (clsB (top 4)).getD 1 (.Pass ⟨0, 0, 0, 0⟩)
abbrev n_p_PlainRun_worth_of : List Str := ["self", "one"]
theorem sc_p_PlainRun_worth_of : FnScope n_p_PlainRun_worth_of ["self", "one"] (defScope s_p_PlainRun_worth_of) := ⟨rfl, rfl, rfl, by decide +kernel, rfl, by decide +kernel, by decide +kernel⟩
def c_p_PlainRun_worth_of : CB := (.cons (.ifs (.val (.blt .isi (.cons (.var 1) (.cons (.tn .str) .nil)))) (.cons (.ret (.ix (.fld 0 (.var 0) "held") (.var 1))) .nil) .nil) (.cons (.ret (.var 1)) .nil))
abbrev f_p_PlainRun_worth_of : List Str := []
abbrev g_p_PlainRun_worth_of : List Str := ["PlainRun"]
abbrev b_p_PlainRun_worth_of : List Str := ["isinstance", "str", "PlainRun.held"]
theorem ch_p_PlainRun_worth_of : chkB ⟨n_p_PlainRun_worth_of, defScope s_p_PlainRun_worth_of, none, f_p_PlainRun_worth_of, g_p_PlainRun_worth_of, b_p_PlainRun_worth_of⟩ c_p_PlainRun_worth_of (defBody s_p_PlainRun_worth_of) = true := by decide +kernel
abbrev s_p_PlainRun_do_row : Stmt := (clsB (top 4)).getD 2 (.Pass ⟨0, 0, 0, 0⟩)
abbrev n_p_PlainRun_do_row : List Str := ["self", "row"]
theorem sc_p_PlainRun_do_row : FnScope n_p_PlainRun_do_row ["self", "row"] (defScope s_p_PlainRun_do_row) := ⟨rfl, rfl, rfl, by decide +kernel, rfl, by decide +kernel, by decide +kernel⟩
def c_p_PlainRun_do_row : CB := (.cons (.ifs (.cmp .Eq (.ix (.var 1) (.int 0)) (.str "set")) (.cons (.asg (.sub (.fld 0 (.var 0) "held") (.ix (.var 1) (.int 1))) (.fn 0 (.cons (.ix (.var 1) (.int 2)) (.cons (.meth 1 0 "worth_of" (.var 0) (.cons (.ix (.var 1) (.int 3)) .nil)) (.cons (.meth 1 0 "worth_of" (.var 0) (.cons (.ix (.var 1) (.int 4)) .nil)) .nil))))) .nil) (.cons (.ifs (.cmp .Eq (.ix (.var 1) (.int 0)) (.str "copy")) (.cons (.asg (.sub (.fld 0 (.var 0) "held") (.ix (.var 1) (.int 1))) (.meth 1 0 "worth_of" (.var 0) (.cons (.ix (.var 1) (.int 2)) .nil))) .nil) (.cons (.expr (.mt .append (.fld 0 (.var 0) "said") (.cons (.meth 1 0 "worth_of" (.var 0) (.cons (.ix (.var 1) (.int 1)) .nil)) .nil))) .nil)) .nil)) .nil)
abbrev f_p_PlainRun_do_row : List Str := ["done", "PlainRun.worth_of"]
abbrev g_p_PlainRun_do_row : List Str := ["PlainRun"]
abbrev b_p_PlainRun_do_row : List Str := ["PlainRun.held", "PlainRun.said"]
theorem ch_p_PlainRun_do_row : chkB ⟨n_p_PlainRun_do_row, defScope s_p_PlainRun_do_row, none, f_p_PlainRun_do_row, g_p_PlainRun_do_row, b_p_PlainRun_do_row⟩ c_p_PlainRun_do_row (defBody s_p_PlainRun_do_row) = true := by decide +kernel
abbrev s_p_PlainRun_go_through : Stmt := (clsB (top 4)).getD 3 (.Pass ⟨0, 0, 0, 0⟩)
abbrev n_p_PlainRun_go_through : List Str := ["self", "block", "row", "way", "rows", "exit_row"]
theorem sc_p_PlainRun_go_through : FnScope n_p_PlainRun_go_through ["self", "block"] (defScope s_p_PlainRun_go_through) := ⟨rfl, rfl, rfl, by decide +kernel, rfl, by decide +kernel, by decide +kernel⟩
def c_p_PlainRun_go_through : CB := (.cons (.asg (.tup 2 (.cons (.name 4) (.cons (.name 5) .nil))) (.ix (.ix (.fld 0 (.var 0) "program") (.int 1)) (.var 1))) (.cons (.fors (.name 2) (.it (.var 4)) (.cons (.expr (.meth 1 0 "do_row" (.var 0) (.cons (.var 2) .nil))) .nil)) (.cons (.ifs (.cmp .Eq (.ix (.var 5) (.int 0)) (.str "end")) (.cons (.ret (.tup (.cons (.int 0) (.cons .non .nil)))) .nil) .nil) (.cons (.ifs (.cmp .Eq (.ix (.var 5) (.int 0)) (.str "go")) (.cons (.ret (.tup (.cons (.int 0) (.cons (.ix (.var 5) (.int 1)) .nil)))) .nil) .nil) (.cons (.asg (.name 3) (.blt .int (.cons (.cmp .Eq (.meth 0 0 "worth_of" (.var 0) (.cons (.ix (.var 5) (.int 1)) .nil)) (.int 0)) .nil))) (.cons (.ret (.tup (.cons (.var 3) (.cons (.ix (.var 5) (.addv (.int 2) (.var 3))) .nil)))) .nil))))))
abbrev f_p_PlainRun_go_through : List Str := ["PlainRun.worth_of", "PlainRun.do_row"]
abbrev g_p_PlainRun_go_through : List Str := ["PlainRun"]
abbrev b_p_PlainRun_go_through : List Str := ["int", "PlainRun.program"]
theorem ch_p_PlainRun_go_through : chkB ⟨n_p_PlainRun_go_through, defScope s_p_PlainRun_go_through, none, f_p_PlainRun_go_through, g_p_PlainRun_go_through, b_p_PlainRun_go_through⟩ c_p_PlainRun_go_through (defBody s_p_PlainRun_go_through) = true := by decide +kernel
abbrev s_p_plain_run : Stmt := top 5
abbrev n_p_plain_run : List Str := ["program", "worths", "most", "run", "path", "block", "way", "behind"]
theorem sc_p_plain_run : FnScope n_p_plain_run ["program", "worths", "most"] (defScope s_p_plain_run) := ⟨rfl, rfl, rfl, by decide +kernel, rfl, by decide +kernel, by decide +kernel⟩
def c_p_plain_run : CB := (.cons (.asg (.name 3) (.mk 1 0 (.cons (.var 0) (.cons (.var 1) .nil)))) (.cons (.asg (.name 4) (.lst .nil)) (.cons (.asg (.name 5) (.int 0)) (.cons (.whil (.and (.cmp .IsNot (.var 5) .non) (.cmp .Lt (.blt .len (.cons (.var 4) .nil)) (.var 2))) (.cons (.asg (.tup 2 (.cons (.name 6) (.cons (.name 7) .nil))) (.meth 0 0 "go_through" (.var 3) (.cons (.var 5) .nil))) (.cons (.expr (.mt .append (.var 4) (.cons (.tup (.cons (.var 5) (.cons (.var 6) .nil))) .nil))) (.cons (.asg (.name 5) (.var 7)) .nil)))) (.lk 4 (.cons (.ret (.tup (.cons (.frz (.fld 0 (.var 3) "said")) (.cons (.blt .tuple (.cons (.var 4) .nil)) (.cons (.cmp .Is (.var 5) .non) .nil))))) .nil))))))
abbrev f_p_plain_run : List Str := ["PlainRun.go_through", "PlainRun.__init__"]
abbrev g_p_plain_run : List Str := ["PlainRun"]
abbrev b_p_plain_run : List Str := ["tuple", "PlainRun.said", "len"]
theorem ch_p_plain_run : chkB ⟨n_p_plain_run, defScope s_p_plain_run, none, f_p_plain_run, g_p_plain_run, b_p_plain_run⟩ c_p_plain_run (defBody s_p_plain_run) = true := by decide +kernel
abbrev s_l_pen : Stmt := top 7
abbrev n_l_pen : List Str := ["_law_script", "_law_cell"]
theorem sc_l_pen : FnScope n_l_pen ["_law_script"] (defScope s_l_pen) := ⟨rfl, rfl, rfl, by decide +kernel, rfl, by decide +kernel, by decide +kernel⟩
def c_l_pen : CB := (.cons (.ret (.lst (.cons (.lcv [("_law_cell", 1)] (.name 1) (.it (.slv (.var 0) .no (.part (.int 63)))) .no (.var 1)) (.cons (.int 0) (.cons (.int 0) .nil))))) .nil)
abbrev f_l_pen : List Str := []
abbrev g_l_pen : List Str := []
abbrev b_l_pen : List Str := []
theorem ch_l_pen : chkB ⟨n_l_pen, defScope s_l_pen, none, f_l_pen, g_l_pen, b_l_pen⟩ c_l_pen (defBody s_l_pen) = true := by decide +kernel
abbrev s_l_draw : Stmt := top 8
abbrev n_l_draw : List Str := ["_law_pen_here", "_law_many", "_law_at", "_law_cell", "_law_number", "_law_digit"]
theorem sc_l_draw : FnScope n_l_draw ["_law_pen_here", "_law_many"] (defScope s_l_draw) := ⟨rfl, rfl, rfl, by decide +kernel, rfl, by decide +kernel, by decide +kernel⟩
def c_l_draw : CB := (.cons (.ifs (.cmp .Gt (.ix (.var 0) (.int 2)) (.int 0)) (.cons (.asg (.name 5) (.bin .Mod (.ix (.var 0) (.int 2)) (.var 1))) (.cons (.asg (.sub (.var 0) (.int 2)) (.bin .FloorDiv (.ix (.var 0) (.int 2)) (.var 1))) (.cons (.ret (.var 5)) .nil))) .nil) (.cons (.asg (.name 2) (.ix (.var 0) (.int 1))) (.cons (.asg (.sub (.var 0) (.int 1)) (.addv (.var 2) (.int 1))) (.cons (.asg (.name 3) (.int 23)) (.cons (.ifs (.cmp .Gt (.blt .len (.cons (.ix (.var 0) (.int 0)) .nil)) (.int 0)) (.cons (.asg (.name 3) (.ix (.ix (.var 0) (.int 0)) (.bin .Mod (.var 2) (.blt .len (.cons (.ix (.var 0) (.int 0)) .nil))))) .nil) .nil) (.cons (.ifs (.and (.cmp .Lt (.var 2) (.blt .len (.cons (.ix (.var 0) (.int 0)) .nil))) (.cmp .GtE (.blt .abs (.cons (.var 3) .nil)) (.bin .Pow (.int 10) (.int 18)))) (.cons (.asg (.sub (.var 0) (.int 2)) (.bin .FloorDiv (.blt .abs (.cons (.var 3) .nil)) (.var 1))) (.cons (.ret (.bin .Mod (.blt .abs (.cons (.var 3) .nil)) (.var 1))) .nil)) .nil) (.cons (.asg (.name 4) (.bin .Mod (.bin .Mult (.addv (.addv (.bin .Mod (.var 3) (.int 2147483629)) (.bin .Mult (.int 48271) (.var 2))) (.int 29)) (.int 69621)) (.int 2147483587))) (.cons (.asg (.name 4) (.bin .Mod (.addv (.addv (.bin .Mult (.var 4) (.var 4)) (.bin .Mult (.int 16807) (.var 4))) (.bin .Mult (.var 2) (.var 2))) (.int 2147483563))) (.cons (.ret (.bin .Mod (.bin .FloorDiv (.bin .Mod (.bin .Mult (.var 4) (.int 40692)) (.int 2147483399)) (.int 64)) (.var 1))) .nil)))))))))
abbrev f_l_draw : List Str := []
abbrev g_l_draw : List Str := []
abbrev b_l_draw : List Str := ["abs", "len"]
theorem ch_l_draw : chkB ⟨n_l_draw, defScope s_l_draw, none, f_l_draw, g_l_draw, b_l_draw⟩ c_l_draw (defBody s_l_draw) = true := by decide +kernel
abbrev s_l_deeds : Stmt := top 9
abbrev n_l_deeds : List Str := []
theorem sc_l_deeds : FnScope n_l_deeds [] (defScope s_l_deeds) := ⟨rfl, rfl, rfl, by decide +kernel, rfl, by decide +kernel, by decide +kernel⟩
def c_l_deeds : CB := (.cons (.ret (.lstv (.cons (.str "add") (.cons (.str "less") (.cons (.str "times") (.cons (.str "both") (.cons (.str "odd") (.cons (.str "same") (.cons (.str "under") .nil))))))))) .nil)
abbrev f_l_deeds : List Str := []
abbrev g_l_deeds : List Str := []
abbrev b_l_deeds : List Str := []
theorem ch_l_deeds : chkB ⟨n_l_deeds, defScope s_l_deeds, none, f_l_deeds, g_l_deeds, b_l_deeds⟩ c_l_deeds (defBody s_l_deeds) = true := by decide +kernel
abbrev s_l_name : Stmt := top 10
abbrev n_l_name : List Str := ["_law_pen_here", "_law_letters", "_law_size", "_law_k"]
theorem sc_l_name : FnScope n_l_name ["_law_pen_here"] (defScope s_l_name) := ⟨rfl, rfl, rfl, by decide +kernel, rfl, by decide +kernel, by decide +kernel⟩
def c_l_name : CB := (.cons (.asg (.name 1) (.str "abcdefghijklmnopqrstuvwxyz")) (.cons (.ifs (.cmp .Eq (.fn 0 (.cons (.var 0) (.cons (.int 6) .nil))) (.int 0)) (.cons (.ret (.ix (.lstv (.cons (.str "add") (.cons (.str "tell") (.cons (.str "go") (.cons (.str "if") (.cons (.str "end") (.cons (.str "block") (.cons (.str "params") (.cons (.str "else") (.cons (.str "same") .nil)))))))))) (.fn 0 (.cons (.var 0) (.cons (.int 9) .nil))))) .nil) .nil) (.cons (.asg (.name 2) (.ix (.lstv (.cons (.int 1) (.cons (.int 1) (.cons (.int 2) (.cons (.int 8) (.cons (.addv (.int 1) (.fn 0 (.cons (.var 0) (.cons (.int 8) .nil)))) .nil)))))) (.fn 0 (.cons (.var 0) (.cons (.int 5) .nil))))) (.cons (.ret (.mt .join (.str "") (.cons (.lcv [("_law_k", 3)] (.name 3) (.rng1 (.var 2)) .no (.ix (.var 1) (.fn 0 (.cons (.var 0) (.cons (.int 26) .nil))))) .nil))) .nil))))
abbrev f_l_name : List Str := ["_law_draw"]
abbrev g_l_name : List Str := []
abbrev b_l_name : List Str := ["range"]
theorem ch_l_name : chkB ⟨n_l_name, defScope s_l_name, none, f_l_name, g_l_name, b_l_name⟩ c_l_name (defBody s_l_name) = true := by decide +kernel
abbrev s_l_names : Stmt := top 11
abbrev n_l_names : List Str := ["_law_pen_here", "_law_many", "_law_found", "_law_k", "_law_name_here", "_law_sign"]
theorem sc_l_names : FnScope n_l_names ["_law_pen_here", "_law_many"] (defScope s_l_names) := ⟨rfl, rfl, rfl, by decide +kernel, rfl, by decide +kernel, by decide +kernel⟩
def c_l_names : CB := (.cons (.asg (.name 2) (.lst .nil)) (.cons (.fors (.name 3) (.rng1 (.var 1)) (.cons (.asg (.name 4) (.fn 0 (.cons (.var 0) .nil))) (.cons (.fors (.name 5) (.it (.str "abcdefghijklmnopqrstuvwxyz")) (.cons (.ifs (.cmp .In (.var 4) (.var 2)) (.cons (.asg (.name 4) (.addv (.slv (.var 4) .no (.part (.bin .Sub (.blt .len (.cons (.var 4) .nil)) (.int 1)))) (.var 5))) .nil) .nil) .nil)) (.cons (.ifs (.cmp .NotIn (.var 4) (.var 2)) (.cons (.expr (.mt .append (.var 2) (.cons (.var 4) .nil))) .nil) .nil) .nil)))) (.lk 2 (.cons (.ret (.var 2)) .nil))))
abbrev f_l_names : List Str := ["_law_name"]
abbrev g_l_names : List Str := []
abbrev b_l_names : List Str := ["range", "len"]
theorem ch_l_names : chkB ⟨n_l_names, defScope s_l_names, none, f_l_names, g_l_names, b_l_names⟩ c_l_names (defBody s_l_names) = true := by decide +kernel
abbrev s_l_one : Stmt := top 12
abbrev n_l_one : List Str := ["_law_pen_here", "_law_names_here"]
theorem sc_l_one : FnScope n_l_one ["_law_pen_here", "_law_names_here"] (defScope s_l_one) := ⟨rfl, rfl, rfl, by decide +kernel, rfl, by decide +kernel, by decide +kernel⟩
def c_l_one : CB := (.cons (.ifs (.or (.cmp .Eq (.var 1) (.lstv .nil)) (.cmp .Eq (.fn 0 (.cons (.var 0) (.cons (.int 4) .nil))) (.int 0))) (.cons (.ret (.ix (.lstv (.cons (.int 0) (.cons (.int 1) (.cons (.int 65535) (.cons (.fn 0 (.cons (.var 0) (.cons (.int 65536) .nil))) .nil))))) (.fn 0 (.cons (.var 0) (.cons (.int 4) .nil))))) .nil) .nil) (.cons (.ret (.ix (.var 1) (.fn 0 (.cons (.var 0) (.cons (.blt .len (.cons (.var 1) .nil)) .nil))))) .nil))
abbrev f_l_one : List Str := ["_law_draw"]
abbrev g_l_one : List Str := []
abbrev b_l_one : List Str := ["len"]
theorem ch_l_one : chkB ⟨n_l_one, defScope s_l_one, none, f_l_one, g_l_one, b_l_one⟩ c_l_one (defBody s_l_one) = true := by decide +kernel
abbrev s_l_some_row : Stmt := top 13
abbrev n_l_some_row : List Str := ["_law_pen_here", "_law_names_here", "_law_readable", "_law_way", "_law_name_here"]
theorem sc_l_some_row : FnScope n_l_some_row ["_law_pen_here", "_law_names_here", "_law_readable"] (defScope s_l_some_row) := ⟨rfl, rfl, rfl, by decide +kernel, rfl, by decide +kernel, by decide +kernel⟩
def c_l_some_row : CB := (.cons (.asg (.name 3) (.fn 2 (.cons (.var 0) (.cons (.int 5) .nil)))) (.cons (.asg (.name 4) (.ix (.var 1) (.fn 2 (.cons (.var 0) (.cons (.blt .len (.cons (.var 1) .nil)) .nil))))) (.cons (.ifs (.cmp .Eq (.var 3) (.int 0)) (.cons (.ret (.tup (.cons (.str "tell") (.cons (.fn 0 (.cons (.var 0) (.cons (.var 2) .nil))) .nil)))) .nil) .nil) (.cons (.ifs (.cmp .Eq (.var 3) (.int 1)) (.cons (.ret (.tup (.cons (.str "copy") (.cons (.var 4) (.cons (.fn 0 (.cons (.var 0) (.cons (.var 2) .nil))) .nil))))) .nil) .nil) (.cons (.ret (.tup (.cons (.str "set") (.cons (.var 4) (.cons (.ix (.fn 1 .nil) (.fn 2 (.cons (.var 0) (.cons (.int 7) .nil)))) (.cons (.fn 0 (.cons (.var 0) (.cons (.var 2) .nil))) (.cons (.fn 0 (.cons (.var 0) (.cons (.var 2) .nil))) .nil))))))) .nil)))))
abbrev f_l_some_row : List Str := ["_law_one", "_law_deeds", "_law_draw"]
abbrev g_l_some_row : List Str := []
abbrev b_l_some_row : List Str := ["len"]
theorem ch_l_some_row : chkB ⟨n_l_some_row, defScope s_l_some_row, none, f_l_some_row, g_l_some_row, b_l_some_row⟩ c_l_some_row (defBody s_l_some_row) = true := by decide +kernel
abbrev s_l_exit : Stmt := top 14
abbrev n_l_exit : List Str := ["_law_pen_here", "_law_many", "_law_readable", "_law_way"]
theorem sc_l_exit : FnScope n_l_exit ["_law_pen_here", "_law_many", "_law_readable"] (defScope s_l_exit) := ⟨rfl, rfl, rfl, by decide +kernel, rfl, by decide +kernel, by decide +kernel⟩
def c_l_exit : CB := (.cons (.asg (.name 3) (.fn 0 (.cons (.var 0) (.cons (.int 5) .nil)))) (.cons (.ifs (.cmp .Eq (.var 3) (.int 0)) (.cons (.ret (.tup (.cons (.str "end") .nil))) .nil) .nil) (.cons (.ifs (.cmp .Eq (.var 3) (.int 1)) (.cons (.ret (.tup (.cons (.str "go") (.cons (.fn 0 (.cons (.var 0) (.cons (.var 1) .nil))) .nil)))) .nil) .nil) (.cons (.ret (.tup (.cons (.str "if") (.cons (.fn 1 (.cons (.var 0) (.cons (.var 2) .nil))) (.cons (.fn 0 (.cons (.var 0) (.cons (.var 1) .nil))) (.cons (.fn 0 (.cons (.var 0) (.cons (.var 1) .nil))) .nil)))))) .nil))))
abbrev f_l_exit : List Str := ["_law_draw", "_law_one"]
abbrev g_l_exit : List Str := []
abbrev b_l_exit : List Str := []
theorem ch_l_exit : chkB ⟨n_l_exit, defScope s_l_exit, none, f_l_exit, g_l_exit, b_l_exit⟩ c_l_exit (defBody s_l_exit) = true := by decide +kernel
abbrev s_l_led : Stmt := top 15
abbrev n_l_led : List Str := ["_law_leave"]
theorem sc_l_led : FnScope n_l_led ["_law_leave"] (defScope s_l_led) := ⟨rfl, rfl, rfl, by decide +kernel, rfl, by decide +kernel, by decide +kernel⟩
def c_l_led : CB := (.cons (.ifs (.cmp .Eq (.ix (.var 0) (.int 0)) (.str "go")) (.cons (.ret (.lstv (.cons (.ix (.var 0) (.int 1)) .nil))) .nil) .nil) (.cons (.ret (.lofv (.slv (.var 0) (.part (.int 2)) .no))) .nil))
abbrev f_l_led : List Str := []
abbrev g_l_led : List Str := []
abbrev b_l_led : List Str := ["list"]
theorem ch_l_led : chkB ⟨n_l_led, defScope s_l_led, none, f_l_led, g_l_led, b_l_led⟩ c_l_led (defBody s_l_led) = true := by decide +kernel
abbrev s_l_reads : Stmt := top 16
abbrev n_l_reads : List Str := ["_law_row", "_law_ones", "_law_one_here"]
theorem sc_l_reads : FnScope n_l_reads ["_law_row"] (defScope s_l_reads) := ⟨rfl, rfl, rfl, by decide +kernel, rfl, by decide +kernel, by decide +kernel⟩
def c_l_reads : CB := (.cons (.asg (.name 1) (.dctv (.cons (.str "set") (.slv (.var 0) (.part (.int 3)) .no) (.cons (.str "copy") (.slv (.var 0) (.part (.int 2)) .no) (.cons (.str "tell") (.slv (.var 0) (.part (.int 1)) .no) (.cons (.str "if") (.slv (.var 0) (.part (.int 1)) (.part (.int 2))) .nil)))))) (.cons (.ret (.lcv [("_law_one_here", 2)] (.name 2) (.it (.get2 (.var 1) (.ix (.var 0) (.int 0)) (.tup .nil))) (.one (.val (.blt .isi (.cons (.var 2) (.cons (.tn .str) .nil))))) (.var 2))) .nil))
abbrev f_l_reads : List Str := []
abbrev g_l_reads : List Str := []
abbrev b_l_reads : List Str := ["isinstance", "str"]
theorem ch_l_reads : chkB ⟨n_l_reads, defScope s_l_reads, none, f_l_reads, g_l_reads, b_l_reads⟩ c_l_reads (defBody s_l_reads) = true := by decide +kernel
abbrev s_l_sets : Stmt := top 17
abbrev n_l_sets : List Str := ["_law_row", "_law_name_here"]
theorem sc_l_sets : FnScope n_l_sets ["_law_row", "_law_name_here"] (defScope s_l_sets) := ⟨rfl, rfl, rfl, by decide +kernel, rfl, by decide +kernel, by decide +kernel⟩
def c_l_sets : CB := (.cons (.ret (.and (.cmp .In (.ix (.var 0) (.int 0)) (.tup (.cons (.str "set") (.cons (.str "copy") .nil)))) (.cmp .Eq (.ix (.var 0) (.int 1)) (.var 1)))) .nil)
abbrev f_l_sets : List Str := []
abbrev g_l_sets : List Str := []
abbrev b_l_sets : List Str := []
theorem ch_l_sets : chkB ⟨n_l_sets, defScope s_l_sets, none, f_l_sets, g_l_sets, b_l_sets⟩ c_l_sets (defBody s_l_sets) = true := by decide +kernel
abbrev s_l_unset_blocks : Stmt := top 18
abbrev n_l_unset_blocks : List Str := ["_law_program_here", "_law_name_here", "_law_found", "_law_waiting", "_law_rows", "_law_leave", "_law_block", "_law_row"]
theorem sc_l_unset_blocks : FnScope n_l_unset_blocks ["_law_program_here", "_law_name_here"] (defScope s_l_unset_blocks) := ⟨rfl, rfl, rfl, by decide +kernel, rfl, by decide +kernel, by decide +kernel⟩
def c_l_unset_blocks : CB := (.cons (.ifs (.cmp .In (.var 1) (.ix (.var 0) (.int 0))) (.cons (.ret (.lstv .nil)) .nil) .nil) (.cons (.asg (.name 2) (.lst (.cons (.int 0) .nil))) (.cons (.asg (.name 3) (.lst (.cons (.int 0) .nil))) (.cons (.whil (.cmp .NotEq (.var 3) (.lstv .nil)) (.cons (.asg (.tup 2 (.cons (.name 4) (.cons (.name 5) .nil))) (.ix (.ix (.var 0) (.int 1)) (.mt .pop (.var 3) .nil))) (.cons (.ifs (.cmp .Eq (.lcv [("_law_row", 7)] (.name 7) (.it (.var 4)) (.one (.val (.fn 0 (.cons (.var 7) (.cons (.var 1) .nil))))) (.var 7)) (.lstv .nil)) (.cons (.fors (.name 6) (.it (.fn 1 (.cons (.var 5) .nil))) (.cons (.ifs (.cmp .NotIn (.var 6) (.var 2)) (.cons (.expr (.mt .append (.var 2) (.cons (.var 6) .nil))) (.cons (.expr (.mt .append (.var 3) (.cons (.var 6) .nil))) .nil)) .nil) .nil)) .nil) .nil) .nil))) (.lk 2 (.cons (.ret (.var 2)) .nil))))))
abbrev f_l_unset_blocks : List Str := ["_law_sets", "_law_led"]
abbrev g_l_unset_blocks : List Str := []
abbrev b_l_unset_blocks : List Str := []
theorem ch_l_unset_blocks : chkB ⟨n_l_unset_blocks, defScope s_l_unset_blocks, none, f_l_unset_blocks, g_l_unset_blocks, b_l_unset_blocks⟩ c_l_unset_blocks (defBody s_l_unset_blocks) = true := by decide +kernel
abbrev s_l_all_names : Stmt := top 19
abbrev n_l_all_names : List Str := ["_law_program_here", "_law_found", "_law_rows", "_law_leave", "_law_row"]
theorem sc_l_all_names : FnScope n_l_all_names ["_law_program_here"] (defScope s_l_all_names) := ⟨rfl, rfl, rfl, by decide +kernel, rfl, by decide +kernel, by decide +kernel⟩
def c_l_all_names : CB := (.cons (.asg (.name 1) (.blt .list (.cons (.ix (.var 0) (.int 0)) .nil))) (.cons (.fors (.tup 2 (.cons (.name 2) (.cons (.name 3) .nil))) (.it (.ix (.var 0) (.int 1))) (.cons (.fors (.name 4) (.it (.addv (.lofv (.var 2)) (.lstv (.cons (.var 3) .nil)))) (.cons (.expr (.mt .extend (.var 1) (.cons (.fn 0 (.cons (.var 4) .nil)) .nil))) .nil)) (.cons (.expr (.mt .extend (.var 1) (.cons (.lcv [("_law_row", 4)] (.name 4) (.it (.var 2)) (.one (.cmp .NotEq (.ix (.var 4) (.int 0)) (.str "tell"))) (.ix (.var 4) (.int 1))) .nil))) .nil))) (.lk 1 (.cons (.ret (.ssetv (.var 1))) .nil))))
abbrev f_l_all_names : List Str := ["_law_reads"]
abbrev g_l_all_names : List Str := []
abbrev b_l_all_names : List Str := ["sorted", "set", "list"]
theorem ch_l_all_names : chkB ⟨n_l_all_names, defScope s_l_all_names, none, f_l_all_names, g_l_all_names, b_l_all_names⟩ c_l_all_names (defBody s_l_all_names) = true := by decide +kernel
abbrev s_l_unset : Stmt := top 20
abbrev n_l_unset : List Str := ["_law_program_here", "_law_blocks", "_law_b", "_law_block", "_law_rows", "_law_r", "_law_row", "_law_name_here", "_law_ahead", "_law_one_here"]
theorem sc_l_unset : FnScope n_l_unset ["_law_program_here"] (defScope s_l_unset) := ⟨rfl, rfl, rfl, by decide +kernel, rfl, by decide +kernel, by decide +kernel⟩
def c_l_unset : CB := (.cons (.asg (.name 1) (.dof (.lcv [("_law_name_here", 7)] (.name 7) (.it (.fn 2 (.cons (.var 0) .nil))) .no (.tup (.cons (.var 7) (.cons (.fn 3 (.cons (.var 0) (.cons (.var 7) .nil))) .nil)))))) (.cons (.fors (.tup 2 (.cons (.name 2) (.cons (.name 3) .nil))) (.enum (.ix (.var 0) (.int 1))) (.cons (.asg (.name 4) (.addv (.lofv (.ix (.var 3) (.int 0))) (.lstv (.cons (.ix (.var 3) (.int 1)) .nil)))) (.cons (.fors (.tup 2 (.cons (.name 5) (.cons (.name 6) .nil))) (.enum (.var 4)) (.cons (.fors (.name 7) (.it (.fn 0 (.cons (.var 6) .nil))) (.cons (.setLcv 8 [("_law_one_here", 9)] (.name 9) (.it (.slv (.var 4) .no (.part (.var 5)))) (.one (.val (.fn 1 (.cons (.var 9) (.cons (.var 7) .nil))))) (.var 9)) (.cons (.ifs (.and (.cmp .In (.var 2) (.ix (.var 1) (.var 7))) (.cmp .Eq (.var 8) (.lstv .nil))) (.cons (.ret (.tup (.cons (.var 2) (.cons (.var 5) .nil)))) .nil) .nil) .nil))) .nil)) .nil))) (.cons (.ret .non) .nil)))
abbrev f_l_unset : List Str := ["_law_reads", "_law_sets", "_law_all_names", "_law_unset_blocks"]
abbrev g_l_unset : List Str := []
abbrev b_l_unset : List Str := ["enumerate", "list", "dict"]
theorem ch_l_unset : chkB ⟨n_l_unset, defScope s_l_unset, none, f_l_unset, g_l_unset, b_l_unset⟩ c_l_unset (defBody s_l_unset) = true := by decide +kernel
abbrev s_l_worths_for : Stmt := top 21
abbrev n_l_worths_for : List Str := ["_law_row", "_law_names_here", "_law_first", "_law_last", "_law_ones", "_law_one_here"]
theorem sc_l_worths_for : FnScope n_l_worths_for ["_law_row", "_law_names_here"] (defScope s_l_worths_for) := ⟨rfl, rfl, rfl, by decide +kernel, rfl, by decide +kernel, by decide +kernel⟩
def c_l_worths_for : CB := (.cons (.asg (.name 2) (.ix (.dctv (.cons (.str "set") (.int 3) (.cons (.str "copy") (.int 2) (.cons (.str "tell") (.int 1) (.cons (.str "if") (.int 1) .nil))))) (.ix (.var 0) (.int 0)))) (.cons (.asg (.name 3) (.addv (.addv (.var 2) (.int 1)) (.blt .int (.cons (.cmp .Eq (.ix (.var 0) (.int 0)) (.str "set")) .nil)))) (.cons (.asg (.name 4) (.blt .tuple (.cons (.lcv [("_law_one_here", 5)] (.name 5) (.it (.slv (.var 0) (.part (.var 2)) (.part (.var 3)))) .no (.ix (.lstv (.cons (.var 5) (.cons (.int 7) .nil))) (.blt .int (.cons (.cmp .In (.var 5) (.var 1)) .nil)))) .nil))) (.cons (.ret (.addv (.addv (.slv (.var 0) .no (.part (.var 2))) (.var 4)) (.slv (.var 0) (.part (.var 3)) .no))) .nil))))
abbrev f_l_worths_for : List Str := []
abbrev g_l_worths_for : List Str := []
abbrev b_l_worths_for : List Str := ["tuple", "int"]
theorem ch_l_worths_for : chkB ⟨n_l_worths_for, defScope s_l_worths_for, none, f_l_worths_for, g_l_worths_for, b_l_worths_for⟩ c_l_worths_for (defBody s_l_worths_for) = true := by decide +kernel
abbrev s_l_mended : Stmt := top 22
abbrev n_l_mended : List Str := ["_law_program_here", "_law_place", "_law_names_here", "_law_b", "_law_r", "_law_rows", "_law_leave", "_law_name_here", "_law_row"]
theorem sc_l_mended : FnScope n_l_mended ["_law_program_here"] (defScope s_l_mended) := ⟨rfl, rfl, rfl, by decide +kernel, rfl, by decide +kernel, by decide +kernel⟩
def c_l_mended : CB := (.cons (.asg (.name 1) (.fn 0 (.cons (.var 0) .nil))) (.cons (.whil (.cmp .IsNot (.var 1) .non) (.cons (.asg (.tup 2 (.cons (.name 3) (.cons (.name 4) .nil))) (.var 1)) (.cons (.asg (.tup 2 (.cons (.name 5) (.cons (.name 6) .nil))) (.ix (.ix (.var 0) (.int 1)) (.var 3))) (.cons (.setLcv 2 [("_law_name_here", 7)] (.name 7) (.it (.fn 3 (.cons (.var 0) .nil))) (.one (.cmp .In (.var 3) (.fn 4 (.cons (.var 0) (.cons (.var 7) .nil))))) (.var 7)) (.cons (.setLcv 2 [("_law_name_here", 7)] (.name 7) (.it (.var 2)) (.one (.cmp .Eq (.lcv [("_law_row", 8)] (.name 8) (.it (.slv (.var 5) .no (.part (.var 4)))) (.one (.val (.fn 2 (.cons (.var 8) (.cons (.var 7) .nil))))) (.var 8)) (.lstv .nil))) (.var 7)) (.cons (.ifs (.cmp .Lt (.var 4) (.blt .len (.cons (.var 5) .nil))) (.cons (.asg (.name 5) (.addv (.addv (.slv (.var 5) .no (.part (.var 4))) (.tup (.cons (.fn 1 (.cons (.ix (.var 5) (.var 4)) (.cons (.var 2) .nil))) .nil))) (.slv (.var 5) (.part (.addv (.var 4) (.int 1))) .no))) .nil) (.cons (.asg (.name 6) (.fn 1 (.cons (.var 6) (.cons (.var 2) .nil)))) .nil)) (.cons (.asg (.name 0) (.tup (.cons (.ix (.var 0) (.int 0)) (.cons (.addv (.addv (.slv (.ix (.var 0) (.int 1)) .no (.part (.var 3))) (.tup (.cons (.tup (.cons (.var 5) (.cons (.var 6) .nil))) .nil))) (.slv (.ix (.var 0) (.int 1)) (.part (.addv (.var 3) (.int 1))) .no)) .nil)))) (.cons (.asg (.name 1) (.fn 0 (.cons (.var 0) .nil))) .nil)))))))) (.cons (.ret (.var 0)) .nil)))
abbrev f_l_mended : List Str := ["_law_unset", "_law_worths_for", "_law_sets", "_law_all_names", "_law_unset_blocks"]
abbrev g_l_mended : List Str := []
abbrev b_l_mended : List Str := ["len"]
theorem ch_l_mended : chkB ⟨n_l_mended, defScope s_l_mended, none, f_l_mended, g_l_mended, b_l_mended⟩ c_l_mended (defBody s_l_mended) = true := by decide +kernel
abbrev s_l_wild_program : Stmt := top 23
abbrev n_l_wild_program : List Str := ["_law_pen_here", "_law_names_here", "_law_params", "_law_great", "_law_many", "_law_blocks", "_law_b", "_law_count", "_law_rows", "_law_r"]
theorem sc_l_wild_program : FnScope n_l_wild_program ["_law_pen_here"] (defScope s_l_wild_program) := ⟨rfl, rfl, rfl, by decide +kernel, rfl, by decide +kernel, by decide +kernel⟩
def c_l_wild_program : CB := (.cons (.asg (.name 1) (.fn 3 (.cons (.var 0) (.cons (.addv (.int 1) (.fn 2 (.cons (.var 0) (.cons (.ix (.lstv (.cons (.int 4) (.cons (.int 8) (.cons (.int 14) .nil)))) (.fn 2 (.cons (.var 0) (.cons (.int 3) .nil)))) .nil)))) .nil)))) (.cons (.asg (.name 2) (.blt .tuple (.cons (.slv (.var 1) .no (.part (.fn 2 (.cons (.var 0) (.cons (.addv (.int 1) (.blt .min (.cons (.int 4) (.cons (.blt .len (.cons (.var 1) .nil)) .nil)))) .nil))))) .nil))) (.cons (.asg (.name 3) (.cmp .Eq (.fn 2 (.cons (.var 0) (.cons (.int 8) .nil))) (.int 0))) (.cons (.asg (.name 4) (.ix (.lstv (.cons (.addv (.int 1) (.fn 2 (.cons (.var 0) (.cons (.int 6) .nil)))) (.cons (.int 6) .nil))) (.blt .int (.cons (.var 3) .nil)))) (.cons (.asg (.name 5) (.lst .nil)) (.cons (.fors (.name 6) (.rng1 (.var 4)) (.cons (.asg (.name 7) (.ix (.lstv (.cons (.fn 2 (.cons (.var 0) (.cons (.int 7) .nil))) (.cons (.int 6) .nil))) (.blt .int (.cons (.var 3) .nil)))) (.cons (.setLcv 8 [("_law_r", 9)] (.name 9) (.rng1 (.var 7)) .no (.fn 1 (.cons (.var 0) (.cons (.var 1) (.cons (.var 1) .nil))))) (.cons (.expr (.mt .append (.var 5) (.cons (.tup (.cons (.blt .tuple (.cons (.var 8) .nil)) (.cons (.fn 0 (.cons (.var 0) (.cons (.var 4) (.cons (.var 1) .nil)))) .nil))) .nil))) .nil)))) (.lk 5 (.cons (.ret (.tup (.cons (.var 2) (.cons (.blt .tuple (.cons (.var 5) .nil)) .nil)))) .nil))))))))
abbrev f_l_wild_program : List Str := ["_law_exit", "_law_some_row", "_law_draw", "_law_names"]
abbrev g_l_wild_program : List Str := []
abbrev b_l_wild_program : List Str := ["tuple", "range", "int", "min", "len"]
theorem ch_l_wild_program : chkB ⟨n_l_wild_program, defScope s_l_wild_program, none, f_l_wild_program, g_l_wild_program, b_l_wild_program⟩ c_l_wild_program (defBody s_l_wild_program) = true := by decide +kernel
abbrev s_l_program : Stmt := top 24
abbrev n_l_program : List Str := ["_law_pen_here"]
theorem sc_l_program : FnScope n_l_program ["_law_pen_here"] (defScope s_l_program) := ⟨rfl, rfl, rfl, by decide +kernel, rfl, by decide +kernel, by decide +kernel⟩
def c_l_program : CB := (.cons (.ret (.fn 0 (.cons (.fn 1 (.cons (.var 0) .nil)) .nil))) .nil)
abbrev f_l_program : List Str := ["_law_mended", "_law_wild_program"]
abbrev g_l_program : List Str := []
abbrev b_l_program : List Str := []
theorem ch_l_program : chkB ⟨n_l_program, defScope s_l_program, none, f_l_program, g_l_program, b_l_program⟩ c_l_program (defBody s_l_program) = true := by decide +kernel
abbrev s_l_block_told : Stmt := top 25
abbrev n_l_block_told : List Str := ["_law_program_here", "_law_block", "_law_told", "_law_tells", "_law_row", "_law_k", "_law_one_here"]
theorem sc_l_block_told : FnScope n_l_block_told ["_law_program_here", "_law_block", "_law_told"] (defScope s_l_block_told) := ⟨rfl, rfl, rfl, by decide +kernel, rfl, by decide +kernel, by decide +kernel⟩
def c_l_block_told : CB := (.cons (.setLcv 3 [("_law_row", 4)] (.name 4) (.it (.ix (.ix (.ix (.var 0) (.int 1)) (.var 1)) (.int 0))) (.one (.cmp .Eq (.ix (.var 4) (.int 0)) (.str "tell"))) (.ix (.var 4) (.int 1))) (.cons (.ifs (.cmp .NotEq (.blt .len (.cons (.var 3) .nil)) (.blt .len (.cons (.var 2) .nil))) (.cons (.ret (.bl false)) .nil) .nil) (.cons (.ret (.cmp .Eq (.lcv [("_law_k", 5), ("_law_one_here", 6)] (.tup 2 (.cons (.name 5) (.cons (.name 6) .nil))) (.enum (.var 3)) (.one (.and (.not (.val (.blt .isi (.cons (.var 6) (.cons (.tn .str) .nil))))) (.cmp .NotEq (.var 6) (.ix (.var 2) (.var 5))))) (.var 5)) (.lstv .nil))) .nil)))
abbrev f_l_block_told : List Str := []
abbrev g_l_block_told : List Str := []
abbrev b_l_block_told : List Str := ["enumerate", "isinstance", "str", "len"]
theorem ch_l_block_told : chkB ⟨n_l_block_told, defScope s_l_block_told, none, f_l_block_told, g_l_block_told, b_l_block_told⟩ c_l_block_told (defBody s_l_block_told) = true := by decide +kernel
abbrev s_law : Stmt := top 26
abbrev n_law : List Str := ["_law_script", "_law_pen_here", "_law_program_here", "_law_worths", "_law_block", "_law_most", "_law_told", "_law_path", "_law_ended", "_law_behind", "_law_leave", "_law_way", "_law_name_here"]
theorem sc_law : FnScope n_law ["_law_script"] (defScope s_law) := ⟨rfl, rfl, rfl, by decide +kernel, rfl, by decide +kernel, by decide +kernel⟩
def c_law : CB := (.cons (.asg (.name 1) (.fn 5 (.cons (.var 0) .nil))) (.cons (.asg (.name 2) (.fn 4 (.cons (.var 1) .nil))) (.cons (.asg (.name 3) (.blt .tuple (.cons (.lcv [("_law_name_here", 12)] (.name 12) (.it (.ix (.var 2) (.int 0))) .no (.fn 3 (.cons (.var 1) (.cons (.ix (.lstv (.cons (.int 2) (.cons (.int 65536) .nil))) (.fn 3 (.cons (.var 1) (.cons (.int 2) .nil)))) .nil)))) .nil))) (.cons (.asg (.tup 3 (.cons (.name 6) (.cons (.name 7) (.cons (.name 8) .nil)))) (.fn 2 (.cons (.var 2) (.cons (.var 3) (.cons (.int 0) .nil))))) (.cons (.ifs (.or (.cmp .NotEq (.var 6) (.lstv .nil)) (.or (.cmp .NotEq (.var 7) (.tup .nil)) (.cmp .IsNot (.var 8) (.bl false)))) (.cons (.ret (.bl false)) .nil) .nil) (.cons (.asg (.name 4) (.int 0)) (.cons (.fors (.name 5) (.rng2 (.int 1) (.int 15)) (.cons (.asg (.name 9) (.fn 2 (.cons (.var 2) (.cons (.var 3) (.cons (.var 5) .nil))))) (.cons (.ifs (.or (.cmp .NotEq (.slv (.ix (.var 9) (.int 0)) .no (.part (.blt .len (.cons (.var 6) .nil)))) (.var 6)) (.cmp .NotEq (.slv (.ix (.var 9) (.int 1)) .no (.part (.blt .len (.cons (.var 7) .nil)))) (.var 7))) (.cons (.ret (.bl false)) .nil) .nil) (.cons (.ifs (.val (.var 8)) (.cons (.ifs (.cmp .NotEq (.var 9) (.tup (.cons (.var 6) (.cons (.var 7) (.cons (.bl true) .nil))))) (.cons (.ret (.bl false)) .nil) .nil) .nil) (.cons (.ifs (.or (.cmp .NotEq (.blt .len (.cons (.ix (.var 9) (.int 1)) .nil)) (.var 5)) (.cmp .NotEq (.ix (.ix (.ix (.var 9) (.int 1)) (.neg (.int 1))) (.int 0)) (.var 4))) (.cons (.ret (.bl false)) .nil) .nil) (.cons (.ifs (.not (.val (.fn 1 (.cons (.var 2) (.cons (.var 4) (.cons (.slv (.ix (.var 9) (.int 0)) (.part (.blt .len (.cons (.var 6) .nil))) .no) .nil)))))) (.cons (.ret (.bl false)) .nil) .nil) (.cons (.asg (.name 10) (.ix (.ix (.ix (.var 2) (.int 1)) (.var 4)) (.int 1))) (.cons (.asg (.name 11) (.ix (.ix (.ix (.var 9) (.int 1)) (.neg (.int 1))) (.int 1))) (.cons (.ifs (.or (.cmp .NotEq (.ix (.var 9) (.int 2)) (.cmp .Eq (.ix (.var 10) (.int 0)) (.str "end"))) (.cmp .NotIn (.var 11) (.lstv (.cons (.int 0) (.cons (.blt .int (.cons (.cmp .Eq (.ix (.var 10) (.int 0)) (.str "if")) .nil)) .nil))))) (.cons (.ret (.bl false)) .nil) .nil) (.cons (.ifs (.cmp .NotEq (.ix (.var 10) (.int 0)) (.str "end")) (.cons (.asg (.name 4) (.ix (.fn 0 (.cons (.var 10) .nil)) (.var 11))) .nil) .nil) (.cons (.asg (.tup 3 (.cons (.name 6) (.cons (.name 7) (.cons (.name 8) .nil)))) (.var 9)) .nil)))))))) .nil)))) (.cons (.ret (.bl true)) .nil))))))))
abbrev f_law : List Str := ["_law_led", "_law_block_told", "plain_run", "_law_draw", "_law_program", "_law_pen"]
abbrev g_law : List Str := []
abbrev b_law : List Str := ["range", "int", "len", "tuple"]
theorem ch_law : chkB ⟨n_law, defScope s_law, none, f_law, g_law, b_law⟩ c_law (defBody s_law) = true := by decide +kernel
end K48

namespace K48
open PySem PySem.Spec PyProof.Rows L2 DL
abbrev sp_l_draw := spDrawB
theorem len_l_draw : LenS sp_l_draw 2 := by rintro ds G Q xq ⟨p, s, m, G0, rfl, _⟩; rfl
theorem body_l_draw : Bod [] [] c_l_draw 6 sp_l_draw := body_drawB
abbrev sp_l_pen := spPen
theorem len_l_pen : LenS sp_l_pen 1 := by rintro ds G Q xq ⟨ns, rfl, _⟩; rfl
theorem body_l_pen : Bod [] [] c_l_pen 2 sp_l_pen := body_pen
def sp_l_block_told : DSp := fun ds G Q _ => ∃ (p : Prog) (b : Nat) (bl : Blok) (new : List Nat), ds = [p.d, natD b, .rl (new.map natD)] ∧ p.blocks[b]? = some bl ∧ bl.1.length ≤ 1000 ∧ Told (bl.1.filterMap rTold) new ∧ Q (.bl true) G
theorem len_l_block_told : LenS sp_l_block_told 3 := by rintro ds G Q xq ⟨p, b, bl, new, rfl, _⟩; rfl
set_option maxHeartbeats 0 in
theorem body_l_block_told : Bod [] [] c_l_block_told 7 sp_l_block_told := by
  rintro ds G Q xq ⟨p, b, bl, new, rfl, hb, hl, ht, q⟩
  have hat : atI (p.blocks.map blokD) (b : Int) = some (blokD bl) := atI_nat (by rw [List.getElem?_map, hb]; rfl)
  refine ⟨_, rfl, _, hat, _, rfl, ?_⟩
  show lcS _ _ _ _ _ _ _ _ _
  refine lc_filtA DL.Row.d rTellB rTellD (xs := bl.1) rfl (Nat.lt_of_le_of_lt hl (by decide)) trivial ?_ ?_
  · intro i r hr K N hK hN
    cases r with
    | set x d a1 a2 => exact ⟨_, rfl, hN rfl⟩
    | copy x a1 => exact ⟨_, rfl, hN rfl⟩
    | tell a1 => exact ⟨_, rfl, _, rfl, hK rfl⟩
  rw [DL.tells_eq]
  have hn : (((bl.1.filterMap rTold).map One.d).length : Int) = ((new.map natD).length : Int) := by
    rw [List.length_map, List.length_map, ht.1]
  refine iteN (by rw [hn]; simp) ?_
  show lcS _ _ _ _ _ _ _ _ _
  refine lc_filtA (fun z : Nat × D => .tup [natD z.1, z.2]) (fun _ => false) (fun z => natD z.1) (xs := ((bl.1.filterMap rTold).map One.d).mapIdx fun i d => (i, d)) ?_ ?_ trivial ?_ ?_
  · unfold enumD
    refine List.ext_getElem? fun i => ?_
    rw [List.getElem?_mapIdx]
    conv => rhs; rw [List.getElem?_map, List.getElem?_mapIdx, Option.map_map]
    rfl
  · simp
    refine Nat.lt_of_le_of_lt (List.length_filterMap_le _ _) (Nat.lt_of_le_of_lt hl (by decide))
  · intro i z hz K N hK hN
    rw [List.getElem?_mapIdx] at hz
    cases e : ((bl.1.filterMap rTold).map One.d)[i]? with
    | none => rw [e] at hz; cases hz
    | some d =>
      rw [e] at hz
      have hz : (i, d) = z := Option.some.inj hz
      subst hz
      obtain ⟨o, ho, rfl⟩ := get_map e
      cases o with
      | nm x => exact ⟨rfl, _, rfl, hN rfl⟩
      | wo n =>
        have hat2 : atI (new.map natD) (i : Int) = some (natD n) := atI_nat (by rw [List.getElem?_map, ht.2 i n ho]; rfl)
        refine ⟨rfl, _, rfl, _, hat2, ?_⟩
        refine iteN (by simp) ?_
        exact hN rfl
  · rw [List.filter_eq_nil_iff.mpr (fun _ _ => by simp)]
    exact ⟨sz3 0, q⟩
abbrev sp_p_done := spDone
theorem len_p_done : LenS sp_p_done 3 := len_doneH
theorem body_p_done : Bod [] [.int 65536] c_p_done 3 spDone := body_doneH
abbrev sp_p_PlainRun___init__ := spInit
theorem len_p_PlainRun___init__ {C : Addr} : LenS (spInit C) 3 := len_init
theorem body_p_PlainRun___init__ {C : Addr} : Bod [] [.ref C] c_p_PlainRun___init__ 3 (spInit C) := body_init
abbrev sp_p_PlainRun_worth_of := spWorthOf
theorem len_p_PlainRun_worth_of {C : Addr} : LenS (spWorthOf C) 2 := len_worthOf
theorem body_p_PlainRun_worth_of {C : Addr} : Bod [] [.ref C] c_p_PlainRun_worth_of 2 (spWorthOf C) := body_worthOf
abbrev sp_p_PlainRun_do_row := spRow
theorem len_p_PlainRun_do_row {C : Addr} : LenS (spRow C) 2 := len_row
theorem body_p_PlainRun_do_row {C : Addr} : Bod [spDone, spWorthOf C] [.ref C] c_p_PlainRun_do_row 2 (spRow C) := body_row
abbrev sp_p_PlainRun_go_through := spGo
theorem len_p_PlainRun_go_through {C : Addr} : LenS (spGo C) 2 := len_go
theorem body_p_PlainRun_go_through {C : Addr} : Bod [spWorthOf C, spRow C] [.ref C] c_p_PlainRun_go_through 6 (spGo C) := body_go
abbrev sp_p_plain_run := spPlain
theorem len_p_plain_run : LenS spPlain 3 := len_plain
theorem body_p_plain_run {C : Addr} : BodW [spGo C, spInit C] [.ref C] c_p_plain_run 8 spPlain := body_plain
abbrev F : List DSp := [sp_l_led, sp_l_block_told, spPlain, spDrawB, sp_l_program, spPen]
theorem led_nats (e : Exit) : natsL e.led = .rl (e.led.map natD) := rfl
set_option maxHeartbeats 0 in
theorem body_law : BodW F [] c_law 13 sp_law := by
  rintro ds G Q xq ⟨ns, rfl, hns, hG, q⟩
  refine ⟨ns, rfl, fun p hp => ?_⟩
  refine ⟨p, _, G, [], rfl, rfl, rfl, by show 0 + 1000 < 2 ^ 62; omega, ?_⟩
  rintro d1 s1 ⟨ts, pr, hO, hU, rfl⟩ b1
  have b1 : s1.at_ ≤ 0 + 1000 := b1
  have hpl : pr.params.length ≤ 4 := by
    obtain ⟨j, hj, ej⟩ := hO.ps
    rw [ej, List.length_take]
    omega
  refine ⟨_, rfl, ?_⟩
  show lcS _ _ _ _ _ _ _ _ _
  refine lc_ix (I := fun k acc G1 => ∃ (ws : List Nat) (s6 : Pn), acc = ws.map natD ∧ ws.length = k ∧ (∀ n ∈ ws, n < 65536) ∧ s6.at_ ≤ s1.at_ + 2 * k ∧ G1 = put G p s6.c) 0 ⟨[], s1, rfl, rfl, fun n h => (List.not_mem_nil h).elim, by omega, rfl⟩ ?_ ?_
  · rintro k y hy acc G1 N ⟨ws, s6, rfl, hwl, hw, b6, rfl⟩ hN
    have hkl := (List.getElem?_eq_some_iff.mp hy).1
    rw [List.length_map] at hkl
    refine ⟨trivial, sz3 2, p, s6, 2, G, rfl, rfl, by decide, by decide, by omega, fun r s7 hr b7 => ?_⟩
    have add : ∀ (n : Nat) (s8 : Pn), n < 65536 → s8.at_ ≤ s7.at_ + 1 → (ws.map natD).length < sizeLine ∧ N (ws.map natD ++ [natD n]) (put G p s8.c) := fun n s8 hn b8 => by
      refine ⟨by rw [List.length_map]; exact Nat.lt_of_le_of_lt (show _ ≤ 10 by omega) (by decide), hN _ _ ⟨ws ++ [n], s8, ?_, by simp [hwl], fun m hm => ?_, by omega, rfl⟩⟩
      · rw [List.map_append]
        rfl
      · rcases List.mem_append.mp hm with h | h
        · exact hw m h
        · rw [List.mem_singleton.mp h]
          exact hn
    have hr3 : r < 2 := by omega
    match r, hr3 with
    | 0, _ => exact ⟨_, rfl, p, s7, 2, G, rfl, rfl, by decide, by decide, by omega, fun n s8 hn b8 => add n s8 (by omega) b8⟩
    | 1, _ => exact ⟨_, rfl, p, s7, 65536, G, rfl, rfl, by decide, by decide, by omega, fun n s8 hn b8 => add n s8 (by omega) b8⟩
  rintro acc G1 ⟨ws, s2, rfl, hwl, hw, b2, rfl⟩
  rw [Nat.zero_add, List.length_map] at hwl
  refine ⟨trivial, ?_⟩
  refine ⟨pr, ts, ws, 0, rfl, hO, hU, hwl, hw, by decide, rfl, sz3 0, sz3 0, ?_⟩
  have inv := fun k => runN_inv hU hO hwl hw k
  refine ⟨by decide, ?_⟩
  show forS _ _ _ _ _ _ _
  refine for_op (I := fun i ρ G1 => ∃ (b : Nat) (x5 x9 x10 x11 : Option D), ρ = [some (.sc (ns.map D.int)), some (.ref p), some pr.d, some (natT ws), some (natD b), x5, some (.rl ((runN pr i (start pr ws)).said.map natD)), some (.tup ((runN pr i (start pr ws)).path.map pairN)), some (.bl (runN pr i (start pr ws)).at_.isNone), x9, x10, x11, none] ∧ (∀ c, (runN pr i (start pr ws)).at_ = some c → b = c) ∧ G1 = put G p s2.c) ⟨0, _, _, _, _, rfl, fun c h => by cases h; rfl, rfl⟩ ?_ ?_
  · rintro i x hx ρ G1 E ⟨b, x5, x9, x10, x11, rfl, hb, rfl⟩ eN eC eR eB eX
    obtain ⟨hi, rfl⟩ := get_range hx
    have hi : i < 14 := hi
    have e1 : (1 : Int) + (i : Int) = ((i + 1 : Nat) : Int) := by omega
    refine ⟨trivial, pr, ts, ws, i + 1, by rw [e1]; rfl, hO, hU, hwl, hw, by omega, ?_⟩
    obtain ⟨I1, l1, l2, l3⟩ := inv i
    have nxt : runN pr (i + 1) (start pr ws) = stepT pr (runN pr i (start pr ws)) := rfl
    have keep := fun (b : Nat) (x5 x9 x10 x11 : Option D) h => eN [some (.sc (ns.map D.int)), some (.ref p), some pr.d, some (natT ws), some (natD b), x5, some (.rl ((runN pr (i + 1) (start pr ws)).said.map natD)), some (.tup ((runN pr (i + 1) (start pr ws)).path.map pairN)), some (.bl (runN pr (i + 1) (start pr ws)).at_.isNone), x9, x10, x11, none] (put G p s2.c) (put G p s2.c) .refl ⟨b, x5, x9, x10, x11, rfl, h, rfl⟩
    rw [nxt] at keep ⊢
    cases hat : (runN pr i (start pr ws)).at_ with
    | none =>
      rw [stepT_none hat] at keep ⊢
      generalize runN pr i (start pr ws) = R at *
      obtain ⟨hv, said, path, at_⟩ := R
      cases hat
      refine ⟨_, rfl, ne_rlS (n := 1) (by rw [cut_hi _ (Nat.le_refl _), List.take_length]) (nats_ok _ _) (by decide) ?_⟩
      refine ⟨_, rfl, ne_tupS (n := 2) (by rw [cut_hi _ (Nat.le_refl _), List.take_length]) (pairs_ok _ _) (by decide) ?_⟩
      refine ⟨sz3 3, ne_tupS (xs := [.rl (said.map natD), .tup (path.map pairN), .bl true]) (ys := [.rl (said.map natD), .tup (path.map pairN), .bl true]) (n := 3) rfl ?_ (by decide) ?_⟩
      · refine okDs_mem.mpr fun d hd => ?_
        rcases List.mem_cons.mp hd with rfl | hd
        · exact nats_ok _ _
        rcases List.mem_cons.mp hd with rfl | hd
        · exact pairs_ok _ _
        rcases List.mem_cons.mp hd with rfl | hd
        · rfl
        · cases hd
      · exact keep b _ _ _ _ fun c z => by cases z
    | some c =>
      obtain rfl := hb c hat
      obtain ⟨bl, t1, w, nx, g1, g2, g3, g4, g5, g6⟩ := step_some hU hO I1 hat
      obtain ⟨new, hnew, htold⟩ := doRows_told g2
      have l2 := l2 (by rw [hat]; simp)
      rw [g4] at keep ⊢
      generalize runN pr i (start pr ws) = R at *
      obtain ⟨hv, said, path, at_⟩ := R
      cases hat
      have l2 : path.length = i := l2
      obtain ⟨hv1, said1⟩ := t1
      have hnew : said1 = said ++ new := hnew
      subst hnew
      refine ⟨_, rfl, ne_rlS (n := 1) (by rw [List.length_map, cut_hi _ (by simp)]; simp) (nats_ok _ _) (by decide) ?_⟩
      refine ⟨_, rfl, ne_tupS (n := 2) (by rw [List.length_map, cut_hi _ (by simp)]; simp) (pairs_ok _ _) (by decide) ?_⟩
      have hblt := (I1.at_ b rfl).1
      have hpat : atI (pr.blocks.map blokD) (b : Int) = some (blokD bl) := atI_nat (by rw [List.getElem?_map, g1]; rfl)
      have hlast : atI ((path ++ [(b, w)]).map pairN) (-1) = some (pairN (b, w)) := by
        rw [List.map_append]
        exact at_last _ _
      refine ⟨_, rfl, iteN (by simp [l2]; omega) ?_⟩
      refine ⟨_, rfl, _, hlast, _, rfl, iteN (by simp) ?_⟩
      refine ⟨_, rfl, pr, b, bl, new, ?_, g1, Nat.le_trans (hO.rl bl (List.mem_of_getElem? g1)) (by decide), htold, ?_⟩
      · show [pr.d, natD b, D.rl (cutD ((said ++ new).map natD) (some ((said.map natD).length : Int)) none)] = _
        rw [List.length_map, cut_lo _ (by simp)]
        simp
      obtain ⟨rows, ex⟩ := bl
      refine ⟨_, rfl, _, hpat, _, rfl, _, rfl, _, hlast, _, rfl, ?_⟩
      cases ex with
      | fin =>
        cases g3
        refine ⟨_, rfl, _, rfl, _, rfl, sz3 2, rfl, rfl, ?_⟩
        refine ⟨_, rfl, rfl, ?_⟩
        exact keep b _ _ _ _ fun c z => by cases z
      | go c =>
        cases g3
        refine ⟨_, rfl, _, rfl, _, rfl, sz3 2, rfl, rfl, ?_⟩
        refine ⟨_, rfl, .go c, rfl, _, rfl, rfl, ?_⟩
        exact keep c _ _ _ _ fun d z => by cases z; rfl
      | iff o c d =>
        have g3 : (worthOf hv1 o).map (fun n => if n = 0 then (1, some d) else (0, some c)) = some (w, nx) := g3
        have hw2 : (w = 0 ∧ nx = some c) ∨ (w = 1 ∧ nx = some d) := by
          cases en : worthOf hv1 o with
          | none => rw [en] at g3; cases g3
          | some n =>
            rw [en] at g3
            have g3 : (if n = 0 then (1, some d) else (0, some c)) = (w, nx) := Option.some.inj g3
            split at g3
            · cases g3; exact .inr ⟨rfl, rfl⟩
            · cases g3; exact .inl ⟨rfl, rfl⟩
        rcases hw2 with ⟨rfl, rfl⟩ | ⟨rfl, rfl⟩
        · refine ⟨_, rfl, _, rfl, _, rfl, sz3 2, rfl, rfl, ?_⟩
          refine ⟨_, rfl, .iff o c d, rfl, _, rfl, rfl, ?_⟩
          exact keep c _ _ _ _ fun d z => by cases z; rfl
        · refine ⟨_, rfl, _, rfl, _, rfl, sz3 2, rfl, rfl, ?_⟩
          refine ⟨_, rfl, .iff o c d, rfl, _, rfl, rfl, ?_⟩
          exact keep d _ _ _ _ fun d z => by cases z; rfl
  · rintro ρ G1 ⟨b, x5, x9, x10, x11, rfl, hb, rfl⟩
    exact ⟨trivial, .of (q _)⟩
end K48

namespace K48
open PySem PySem.Spec PyProof.Rows L2 DL
def fn : List He.DefD := [⟨("done", none), "done", "done", defArgs s_p_done, defBody s_p_done, defScope s_p_done, [], []⟩, ⟨("PlainRun", some "__init__"), "__init__", "PlainRun.__init__", defArgs s_p_PlainRun___init__, defBody s_p_PlainRun___init__, defScope s_p_PlainRun___init__, [], []⟩, ⟨("PlainRun", some "worth_of"), "worth_of", "PlainRun.worth_of", defArgs s_p_PlainRun_worth_of, defBody s_p_PlainRun_worth_of, defScope s_p_PlainRun_worth_of, [], []⟩, ⟨("PlainRun", some "do_row"), "do_row", "PlainRun.do_row", defArgs s_p_PlainRun_do_row, defBody s_p_PlainRun_do_row, defScope s_p_PlainRun_do_row, [], []⟩, ⟨("PlainRun", some "go_through"), "go_through", "PlainRun.go_through", defArgs s_p_PlainRun_go_through, defBody s_p_PlainRun_go_through, defScope s_p_PlainRun_go_through, [], []⟩, ⟨("plain_run", none), "plain_run", "plain_run", defArgs s_p_plain_run, defBody s_p_plain_run, defScope s_p_plain_run, [], []⟩, ⟨("_law_pen", none), "_law_pen", "_law_pen", defArgs s_l_pen, defBody s_l_pen, defScope s_l_pen, [], []⟩, ⟨("_law_draw", none), "_law_draw", "_law_draw", defArgs s_l_draw, defBody s_l_draw, defScope s_l_draw, [], []⟩, ⟨("_law_deeds", none), "_law_deeds", "_law_deeds", defArgs s_l_deeds, defBody s_l_deeds, defScope s_l_deeds, [], []⟩, ⟨("_law_name", none), "_law_name", "_law_name", defArgs s_l_name, defBody s_l_name, defScope s_l_name, [], []⟩, ⟨("_law_names", none), "_law_names", "_law_names", defArgs s_l_names, defBody s_l_names, defScope s_l_names, [], []⟩, ⟨("_law_one", none), "_law_one", "_law_one", defArgs s_l_one, defBody s_l_one, defScope s_l_one, [], []⟩, ⟨("_law_some_row", none), "_law_some_row", "_law_some_row", defArgs s_l_some_row, defBody s_l_some_row, defScope s_l_some_row, [], []⟩, ⟨("_law_exit", none), "_law_exit", "_law_exit", defArgs s_l_exit, defBody s_l_exit, defScope s_l_exit, [], []⟩, ⟨("_law_led", none), "_law_led", "_law_led", defArgs s_l_led, defBody s_l_led, defScope s_l_led, [], []⟩, ⟨("_law_reads", none), "_law_reads", "_law_reads", defArgs s_l_reads, defBody s_l_reads, defScope s_l_reads, [], []⟩, ⟨("_law_sets", none), "_law_sets", "_law_sets", defArgs s_l_sets, defBody s_l_sets, defScope s_l_sets, [], []⟩, ⟨("_law_unset_blocks", none), "_law_unset_blocks", "_law_unset_blocks", defArgs s_l_unset_blocks, defBody s_l_unset_blocks, defScope s_l_unset_blocks, [], []⟩, ⟨("_law_all_names", none), "_law_all_names", "_law_all_names", defArgs s_l_all_names, defBody s_l_all_names, defScope s_l_all_names, [], []⟩, ⟨("_law_unset", none), "_law_unset", "_law_unset", defArgs s_l_unset, defBody s_l_unset, defScope s_l_unset, [], []⟩, ⟨("_law_worths_for", none), "_law_worths_for", "_law_worths_for", defArgs s_l_worths_for, defBody s_l_worths_for, defScope s_l_worths_for, [], []⟩, ⟨("_law_mended", none), "_law_mended", "_law_mended", defArgs s_l_mended, defBody s_l_mended, defScope s_l_mended, [], []⟩, ⟨("_law_wild_program", none), "_law_wild_program", "_law_wild_program", defArgs s_l_wild_program, defBody s_l_wild_program, defScope s_l_wild_program, [], []⟩, ⟨("_law_program", none), "_law_program", "_law_program", defArgs s_l_program, defBody s_l_program, defScope s_l_program, [], []⟩, ⟨("_law_block_told", none), "_law_block_told", "_law_block_told", defArgs s_l_block_told, defBody s_l_block_told, defScope s_l_block_told, [], []⟩, ⟨("law", none), "law", "law", defArgs s_law, defBody s_law, defScope s_law, [], []⟩]
def fa : List He.Fa := [.glo "done", .glo "plain_run", .glo "_law_pen", .glo "_law_draw", .glo "_law_deeds", .glo "_law_name", .glo "_law_names", .glo "_law_one", .glo "_law_some_row", .glo "_law_exit", .glo "_law_led", .glo "_law_reads", .glo "_law_sets", .glo "_law_unset_blocks", .glo "_law_all_names", .glo "_law_unset", .glo "_law_worths_for", .glo "_law_mended", .glo "_law_wild_program", .glo "_law_program", .glo "_law_block_told", .glo "law", .free "int", .free "PlainRun.said", .free "PlainRun.held", .free "dict", .free "zip", .free "PlainRun.program", .free "isinstance", .free "str", .free "tuple", .free "len", .free "abs", .free "range", .free "list", .free "sorted", .free "set", .free "enumerate", .free "min", .glo "PlainRun", .cls "PlainRun", .noat "PlainRun" "said", .noat "PlainRun" "held", .noat "PlainRun" "program", .meth "PlainRun" "__init__", .mkr "PlainRun", .meth "PlainRun" "worth_of", .meth "PlainRun" "do_row", .meth "PlainRun" "go_through"]
def cs : List (Str × D) := [("MOST", .int (65536))]
abbrev R : PySem.W.OpenRow := PySem.W.OpenLaw.row PySem.Challenge.rw_movebeats_k48_whole_plain_runs_go_on
abbrev hk : PySem.W.Hook := hookC 7 fa fn cs
def ob (s : PySem.W.SharedT) : He.AlD := obsCG 7 fa fn cs (HandSHeadRun.getT s)
theorem ob_eq (s : PySem.W.SharedT) : ob s = hk.obs s.abs := obsCG_eq (HandSHeadRun.getT_eq s)
def loose : List Str := ["MOST", "done", "PlainRun", "plain_run", "_law_pen", "_law_draw", "_law_deeds", "_law_name", "_law_names", "_law_one", "_law_some_row", "_law_exit", "_law_led", "_law_reads", "_law_sets", "_law_unset_blocks", "_law_all_names", "_law_unset", "_law_worths_for", "_law_mended", "_law_wild_program", "_law_program", "_law_block_told"]
theorem run (w : World) : HandSHeadRun.RunEq R (PySem.W.view R.prog [26]) hk ob 2000 loose w := by
  intro os
  kernel_rfl
set_option maxHeartbeats 0 in
theorem facts {P : Program} {w : World} {K : PySem.W.Frag} {h : Heap} {mg : Str → Option Value} {f : Addr} (X : K.In h) (G : h.Ns mainGlobals mg) (hfa : mg ("law" : Str) = some (.ref f)) (c : SaysC fa fn cs K) :
    ∃ fd : FuncData, (∀ (s : Shared) (v : Value), BindsTo s fd ⟨[v], []⟩ [("_law_script", v)]) ∧ ∀ base : Heap, K.In base → base.Ns mainGlobals mg → FnOk P w K mg base (L2.CX P w) 8 f fd ["_law_script"] (liftSp K sp_law) := by
  have c0 := c.says
  obtain ⟨fd_p_done, F_p_done⟩ := c0.def_ 0 rfl
  have g_p_done := He.glo_ok X G (c0.fact 0 (f := .glo "done") rfl)
  obtain ⟨fd_p_PlainRun___init__, F_p_PlainRun___init__⟩ := c0.def_ 1 rfl
  obtain ⟨fd_p_PlainRun_worth_of, F_p_PlainRun_worth_of⟩ := c0.def_ 2 rfl
  obtain ⟨fd_p_PlainRun_do_row, F_p_PlainRun_do_row⟩ := c0.def_ 3 rfl
  obtain ⟨fd_p_PlainRun_go_through, F_p_PlainRun_go_through⟩ := c0.def_ 4 rfl
  obtain ⟨fd_p_plain_run, F_p_plain_run⟩ := c0.def_ 5 rfl
  have g_p_plain_run := He.glo_ok X G (c0.fact 1 (f := .glo "plain_run") rfl)
  obtain ⟨fd_l_pen, F_l_pen⟩ := c0.def_ 6 rfl
  have g_l_pen := He.glo_ok X G (c0.fact 2 (f := .glo "_law_pen") rfl)
  obtain ⟨fd_l_draw, F_l_draw⟩ := c0.def_ 7 rfl
  have g_l_draw := He.glo_ok X G (c0.fact 3 (f := .glo "_law_draw") rfl)
  obtain ⟨fd_l_deeds, F_l_deeds⟩ := c0.def_ 8 rfl
  have g_l_deeds := He.glo_ok X G (c0.fact 4 (f := .glo "_law_deeds") rfl)
  obtain ⟨fd_l_name, F_l_name⟩ := c0.def_ 9 rfl
  have g_l_name := He.glo_ok X G (c0.fact 5 (f := .glo "_law_name") rfl)
  obtain ⟨fd_l_names, F_l_names⟩ := c0.def_ 10 rfl
  have g_l_names := He.glo_ok X G (c0.fact 6 (f := .glo "_law_names") rfl)
  obtain ⟨fd_l_one, F_l_one⟩ := c0.def_ 11 rfl
  have g_l_one := He.glo_ok X G (c0.fact 7 (f := .glo "_law_one") rfl)
  obtain ⟨fd_l_some_row, F_l_some_row⟩ := c0.def_ 12 rfl
  have g_l_some_row := He.glo_ok X G (c0.fact 8 (f := .glo "_law_some_row") rfl)
  obtain ⟨fd_l_exit, F_l_exit⟩ := c0.def_ 13 rfl
  have g_l_exit := He.glo_ok X G (c0.fact 9 (f := .glo "_law_exit") rfl)
  obtain ⟨fd_l_led, F_l_led⟩ := c0.def_ 14 rfl
  have g_l_led := He.glo_ok X G (c0.fact 10 (f := .glo "_law_led") rfl)
  obtain ⟨fd_l_reads, F_l_reads⟩ := c0.def_ 15 rfl
  have g_l_reads := He.glo_ok X G (c0.fact 11 (f := .glo "_law_reads") rfl)
  obtain ⟨fd_l_sets, F_l_sets⟩ := c0.def_ 16 rfl
  have g_l_sets := He.glo_ok X G (c0.fact 12 (f := .glo "_law_sets") rfl)
  obtain ⟨fd_l_unset_blocks, F_l_unset_blocks⟩ := c0.def_ 17 rfl
  have g_l_unset_blocks := He.glo_ok X G (c0.fact 13 (f := .glo "_law_unset_blocks") rfl)
  obtain ⟨fd_l_all_names, F_l_all_names⟩ := c0.def_ 18 rfl
  have g_l_all_names := He.glo_ok X G (c0.fact 14 (f := .glo "_law_all_names") rfl)
  obtain ⟨fd_l_unset, F_l_unset⟩ := c0.def_ 19 rfl
  have g_l_unset := He.glo_ok X G (c0.fact 15 (f := .glo "_law_unset") rfl)
  obtain ⟨fd_l_worths_for, F_l_worths_for⟩ := c0.def_ 20 rfl
  have g_l_worths_for := He.glo_ok X G (c0.fact 16 (f := .glo "_law_worths_for") rfl)
  obtain ⟨fd_l_mended, F_l_mended⟩ := c0.def_ 21 rfl
  have g_l_mended := He.glo_ok X G (c0.fact 17 (f := .glo "_law_mended") rfl)
  obtain ⟨fd_l_wild_program, F_l_wild_program⟩ := c0.def_ 22 rfl
  have g_l_wild_program := He.glo_ok X G (c0.fact 18 (f := .glo "_law_wild_program") rfl)
  obtain ⟨fd_l_program, F_l_program⟩ := c0.def_ 23 rfl
  have g_l_program := He.glo_ok X G (c0.fact 19 (f := .glo "_law_program") rfl)
  obtain ⟨fd_l_block_told, F_l_block_told⟩ := c0.def_ 24 rfl
  have g_l_block_told := He.glo_ok X G (c0.fact 20 (f := .glo "_law_block_told") rfl)
  obtain ⟨fd_law, F_law⟩ := c0.def_ 25 rfl
  have g_law := He.glo_ok X G (c0.fact 21 (f := .glo "law") rfl)
  have z_int := He.free_ok X G (c0.fact 22 (f := .free "int") rfl)
  have z_PlainRun_said := He.free_ok X G (c0.fact 23 (f := .free "PlainRun.said") rfl)
  have z_PlainRun_held := He.free_ok X G (c0.fact 24 (f := .free "PlainRun.held") rfl)
  have z_dict := He.free_ok X G (c0.fact 25 (f := .free "dict") rfl)
  have z_zip := He.free_ok X G (c0.fact 26 (f := .free "zip") rfl)
  have z_PlainRun_program := He.free_ok X G (c0.fact 27 (f := .free "PlainRun.program") rfl)
  have z_isinstance := He.free_ok X G (c0.fact 28 (f := .free "isinstance") rfl)
  have z_str := He.free_ok X G (c0.fact 29 (f := .free "str") rfl)
  have z_tuple := He.free_ok X G (c0.fact 30 (f := .free "tuple") rfl)
  have z_len := He.free_ok X G (c0.fact 31 (f := .free "len") rfl)
  have z_abs := He.free_ok X G (c0.fact 32 (f := .free "abs") rfl)
  have z_range := He.free_ok X G (c0.fact 33 (f := .free "range") rfl)
  have z_list := He.free_ok X G (c0.fact 34 (f := .free "list") rfl)
  have z_sorted := He.free_ok X G (c0.fact 35 (f := .free "sorted") rfl)
  have z_set := He.free_ok X G (c0.fact 36 (f := .free "set") rfl)
  have z_enumerate := He.free_ok X G (c0.fact 37 (f := .free "enumerate") rfl)
  have z_min := He.free_ok X G (c0.fact 38 (f := .free "min") rfl)
  have gc_PlainRun := He.glo_ok X G (c0.fact 39 (f := .glo "PlainRun") rfl)
  have kc_PlainRun := He.cls_ok (c0.fact 40 (f := .cls "PlainRun") rfl)
  have na_PlainRun_said := He.noat_ok (c0.fact 41 (f := .noat "PlainRun" "said") rfl)
  have na_PlainRun_held := He.noat_ok (c0.fact 42 (f := .noat "PlainRun" "held") rfl)
  have na_PlainRun_program := He.noat_ok (c0.fact 43 (f := .noat "PlainRun" "program") rfl)
  have me_PlainRun___init__ := He.meth_ok (c0.fact 44 (f := .meth "PlainRun" "__init__") rfl)
  have mk_PlainRun := He.mkr_ok (c0.fact 45 (f := .mkr "PlainRun") rfl)
  have me_PlainRun_worth_of := He.meth_ok (c0.fact 46 (f := .meth "PlainRun" "worth_of") rfl)
  have me_PlainRun_do_row := He.meth_ok (c0.fact 47 (f := .meth "PlainRun" "do_row") rfl)
  have me_PlainRun_go_through := He.meth_ok (c0.fact 48 (f := .meth "PlainRun" "go_through") rfl)
  have i_MOST := cst_ok X G (c.cst 0 (p := ("MOST", .int (65536))) rfl)
  have e := hfa.symm.trans g_law
  cases e
  have bl := FunD.bindsA (ps := ["_law_script"]) F_law fun _ _ _ _ _ _ us hl => match us, hl with | [_], _ => rfl
  refine ⟨fd_law, fun s v => bl s [v] rfl, fun base _ _ => ?_⟩
  have d_p_done : DefOk P w K mg base 1 "done" sp_p_done := mk_def F_p_done g_p_done (FunD.bindsN F_p_done fun _ _ _ _ _ _ us hl => match us, hl with | [_, _, _], _ => rfl) sc_p_done len_p_done Cals.nil (Glbs.cons i_MOST Glbs.nil) (by simp [b_p_done, z_int]) ch_p_done body_p_done.g
  have d_l_pen : DefOk P w K mg base 1 "_law_pen" sp_l_pen := mk_def F_l_pen g_l_pen (FunD.bindsN F_l_pen fun _ _ _ _ _ _ us hl => match us, hl with | [_], _ => rfl) sc_l_pen len_l_pen Cals.nil Glbs.nil (by simp [b_l_pen]) ch_l_pen body_l_pen.g
  have d_l_draw : DefOk P w K mg base 1 "_law_draw" sp_l_draw := mk_def F_l_draw g_l_draw (FunD.bindsN F_l_draw fun _ _ _ _ _ _ us hl => match us, hl with | [_, _], _ => rfl) sc_l_draw len_l_draw Cals.nil Glbs.nil (by simp [b_l_draw, z_abs, z_len]) ch_l_draw body_l_draw.g
  have d_l_deeds : DefOk P w K mg base 1 "_law_deeds" sp_l_deeds := mk_def F_l_deeds g_l_deeds (FunD.bindsN F_l_deeds fun _ _ _ _ _ _ us hl => match us, hl with | [], _ => rfl) sc_l_deeds len_l_deeds Cals.nil Glbs.nil (by simp [b_l_deeds]) ch_l_deeds body_l_deeds.g
  have d_l_led : DefOk P w K mg base 1 "_law_led" sp_l_led := mk_def F_l_led g_l_led (FunD.bindsN F_l_led fun _ _ _ _ _ _ us hl => match us, hl with | [_], _ => rfl) sc_l_led len_l_led Cals.nil Glbs.nil (by simp [b_l_led, z_list]) ch_l_led body_l_led.g
  have d_l_reads : DefOk P w K mg base 1 "_law_reads" sp_l_reads := mk_def F_l_reads g_l_reads (FunD.bindsN F_l_reads fun _ _ _ _ _ _ us hl => match us, hl with | [_], _ => rfl) sc_l_reads len_l_reads Cals.nil Glbs.nil (by simp [b_l_reads, z_isinstance, z_str]) ch_l_reads body_l_reads.g
  have d_l_sets : DefOk P w K mg base 1 "_law_sets" sp_l_sets := mk_def F_l_sets g_l_sets (FunD.bindsN F_l_sets fun _ _ _ _ _ _ us hl => match us, hl with | [_, _], _ => rfl) sc_l_sets len_l_sets Cals.nil Glbs.nil (by simp [b_l_sets]) ch_l_sets body_l_sets.g
  have d_l_worths_for : DefOk P w K mg base 1 "_law_worths_for" sp_l_worths_for := mk_def F_l_worths_for g_l_worths_for (FunD.bindsN F_l_worths_for fun _ _ _ _ _ _ us hl => match us, hl with | [_, _], _ => rfl) sc_l_worths_for len_l_worths_for Cals.nil Glbs.nil (by simp [b_l_worths_for, z_tuple, z_int]) ch_l_worths_for body_l_worths_for.g
  have d_l_block_told : DefOk P w K mg base 1 "_law_block_told" sp_l_block_told := mk_def F_l_block_told g_l_block_told (FunD.bindsN F_l_block_told fun _ _ _ _ _ _ us hl => match us, hl with | [_, _, _], _ => rfl) sc_l_block_told len_l_block_told Cals.nil Glbs.nil (by simp [b_l_block_told, z_enumerate, z_isinstance, z_str, z_len]) ch_l_block_told body_l_block_told.g
  have f_p_PlainRun___init__ : FnOk P w K mg base (L2.CX P w) 1 _ fd_p_PlainRun___init__ _ (liftSp K (sp_p_PlainRun___init__ (He.ga K "PlainRun"))) := mk_fnX (F := []) (Gm := [.ref (He.ga K "PlainRun")]) F_p_PlainRun___init__ sc_p_PlainRun___init__ len_p_PlainRun___init__ CalX.nil (ClsX.t (ClsX.yes kc_PlainRun (FldX.yes (f0 := "said") (by decide +kernel) na_PlainRun_said (FldX.yes (f0 := "held") (by decide +kernel) na_PlainRun_held (FldX.no (by decide +kernel) (FldX.no (by decide +kernel) (FldX.yes (f0 := "program") (by decide +kernel) na_PlainRun_program FldX.nil))))) MetX.nil ClsX.nil)) (Glbs.cons (glb_ref gc_PlainRun) Glbs.nil) (by simp [b_p_PlainRun___init__, z_PlainRun_said, z_PlainRun_held, z_dict, z_zip, z_PlainRun_program]) ch_p_PlainRun___init__ body_p_PlainRun___init__.g
  have m_p_PlainRun___init__ : MethOk P w K mg base 2 (He.ga K "PlainRun") "__init__" (sp_p_PlainRun___init__ (He.ga K "PlainRun")) := ⟨1, _, _, _, by decide, f_p_PlainRun___init__, me_PlainRun___init__, (FunD.bindsN F_p_PlainRun___init__ fun _ _ _ _ _ _ us hl => match us, hl with | [_, _, _], _ => rfl)⟩
  have k_p_PlainRun___init__ : MakeOk P w K mg base 2 "PlainRun" (He.ga K "PlainRun") (sp_p_PlainRun___init__ (He.ga K "PlainRun")) := ⟨1, _, _, _, by decide, f_p_PlainRun___init__, mk_PlainRun, gc_PlainRun, (FunD.bindsN F_p_PlainRun___init__ fun _ _ _ _ _ _ us hl => match us, hl with | [_, _, _], _ => rfl)⟩
  have f_p_PlainRun_worth_of : FnOk P w K mg base (L2.CX P w) 1 _ fd_p_PlainRun_worth_of _ (liftSp K (sp_p_PlainRun_worth_of (He.ga K "PlainRun"))) := mk_fnX (F := []) (Gm := [.ref (He.ga K "PlainRun")]) F_p_PlainRun_worth_of sc_p_PlainRun_worth_of len_p_PlainRun_worth_of CalX.nil (ClsX.t (ClsX.yes kc_PlainRun (FldX.no (by decide +kernel) (FldX.no (by decide +kernel) (FldX.yes (f0 := "held") (by decide +kernel) na_PlainRun_held FldX.nil))) MetX.nil ClsX.nil)) (Glbs.cons (glb_ref gc_PlainRun) Glbs.nil) (by simp [b_p_PlainRun_worth_of, z_isinstance, z_str, z_PlainRun_held]) ch_p_PlainRun_worth_of body_p_PlainRun_worth_of.g
  have m_p_PlainRun_worth_of : MethOk P w K mg base 2 (He.ga K "PlainRun") "worth_of" (sp_p_PlainRun_worth_of (He.ga K "PlainRun")) := ⟨1, _, _, _, by decide, f_p_PlainRun_worth_of, me_PlainRun_worth_of, (FunD.bindsN F_p_PlainRun_worth_of fun _ _ _ _ _ _ us hl => match us, hl with | [_, _], _ => rfl)⟩
  have d_l_name : DefOk P w K mg base 2 "_law_name" sp_l_name := mk_def F_l_name g_l_name (FunD.bindsN F_l_name fun _ _ _ _ _ _ us hl => match us, hl with | [_], _ => rfl) sc_l_name len_l_name (Cals.cons (d_l_draw.mono (by decide)) Cals.nil) Glbs.nil (by simp [b_l_name, z_range]) ch_l_name body_l_name.g
  have d_l_one : DefOk P w K mg base 2 "_law_one" sp_l_one := mk_def F_l_one g_l_one (FunD.bindsN F_l_one fun _ _ _ _ _ _ us hl => match us, hl with | [_, _], _ => rfl) sc_l_one len_l_one (Cals.cons (d_l_draw.mono (by decide)) Cals.nil) Glbs.nil (by simp [b_l_one, z_len]) ch_l_one body_l_one.g
  have d_l_unset_blocks : DefOk P w K mg base 2 "_law_unset_blocks" sp_l_unset_blocks := mk_def F_l_unset_blocks g_l_unset_blocks (FunD.bindsN F_l_unset_blocks fun _ _ _ _ _ _ us hl => match us, hl with | [_, _], _ => rfl) sc_l_unset_blocks len_l_unset_blocks (Cals.cons (d_l_sets.mono (by decide)) (Cals.cons (d_l_led.mono (by decide)) Cals.nil)) Glbs.nil (by simp [b_l_unset_blocks]) ch_l_unset_blocks body_l_unset_blocks.g
  have d_l_all_names : DefOk P w K mg base 2 "_law_all_names" sp_l_all_names := mk_def F_l_all_names g_l_all_names (FunD.bindsN F_l_all_names fun _ _ _ _ _ _ us hl => match us, hl with | [_], _ => rfl) sc_l_all_names len_l_all_names (Cals.cons (d_l_reads.mono (by decide)) Cals.nil) Glbs.nil (by simp [b_l_all_names, z_sorted, z_set, z_list]) ch_l_all_names body_l_all_names.g
  have d_l_names : DefOk P w K mg base 3 "_law_names" sp_l_names := mk_def F_l_names g_l_names (FunD.bindsN F_l_names fun _ _ _ _ _ _ us hl => match us, hl with | [_, _], _ => rfl) sc_l_names len_l_names (Cals.cons (d_l_name.mono (by decide)) Cals.nil) Glbs.nil (by simp [b_l_names, z_range, z_len]) ch_l_names body_l_names.g
  have d_l_some_row : DefOk P w K mg base 3 "_law_some_row" sp_l_some_row := mk_def F_l_some_row g_l_some_row (FunD.bindsN F_l_some_row fun _ _ _ _ _ _ us hl => match us, hl with | [_, _, _], _ => rfl) sc_l_some_row len_l_some_row (Cals.cons (d_l_one.mono (by decide)) (Cals.cons (d_l_deeds.mono (by decide)) (Cals.cons (d_l_draw.mono (by decide)) Cals.nil))) Glbs.nil (by simp [b_l_some_row, z_len]) ch_l_some_row body_l_some_row.g
  have d_l_exit : DefOk P w K mg base 3 "_law_exit" sp_l_exit := mk_def F_l_exit g_l_exit (FunD.bindsN F_l_exit fun _ _ _ _ _ _ us hl => match us, hl with | [_, _, _], _ => rfl) sc_l_exit len_l_exit (Cals.cons (d_l_draw.mono (by decide)) (Cals.cons (d_l_one.mono (by decide)) Cals.nil)) Glbs.nil (by simp [b_l_exit]) ch_l_exit body_l_exit.g
  have d_l_unset : DefOk P w K mg base 3 "_law_unset" sp_l_unset := mk_def F_l_unset g_l_unset (FunD.bindsN F_l_unset fun _ _ _ _ _ _ us hl => match us, hl with | [_], _ => rfl) sc_l_unset len_l_unset (Cals.cons (d_l_reads.mono (by decide)) (Cals.cons (d_l_sets.mono (by decide)) (Cals.cons (d_l_all_names.mono (by decide)) (Cals.cons (d_l_unset_blocks.mono (by decide)) Cals.nil)))) Glbs.nil (by simp [b_l_unset, z_enumerate, z_list, z_dict]) ch_l_unset body_l_unset.g
  have f_p_PlainRun_do_row : FnOk P w K mg base (L2.CX P w) 3 _ fd_p_PlainRun_do_row _ (liftSp K (sp_p_PlainRun_do_row (He.ga K "PlainRun"))) := mk_fnX (F := [sp_p_done, (sp_p_PlainRun_worth_of (He.ga K "PlainRun"))]) (Gm := [.ref (He.ga K "PlainRun")]) F_p_PlainRun_do_row sc_p_PlainRun_do_row len_p_PlainRun_do_row (CalX.cons (d_p_done.mono (by decide)) (CalX.skip (by decide +kernel) CalX.nil)) (ClsX.t (ClsX.yes kc_PlainRun (FldX.yes (f0 := "held") (by decide +kernel) na_PlainRun_held (FldX.yes (f0 := "said") (by decide +kernel) na_PlainRun_said FldX.nil)) (MetX.no (by decide +kernel) (MetX.yes (m0 := "worth_of") (by decide +kernel) (m_p_PlainRun_worth_of.mono (by decide)) (fun e => absurd e (by decide +kernel)) MetX.nil)) ClsX.nil)) (Glbs.cons (glb_ref gc_PlainRun) Glbs.nil) (by simp [b_p_PlainRun_do_row, z_PlainRun_held, z_PlainRun_said]) ch_p_PlainRun_do_row body_p_PlainRun_do_row.g
  have m_p_PlainRun_do_row : MethOk P w K mg base 4 (He.ga K "PlainRun") "do_row" (sp_p_PlainRun_do_row (He.ga K "PlainRun")) := ⟨3, _, _, _, by decide, f_p_PlainRun_do_row, me_PlainRun_do_row, (FunD.bindsN F_p_PlainRun_do_row fun _ _ _ _ _ _ us hl => match us, hl with | [_, _], _ => rfl)⟩
  have d_l_mended : DefOk P w K mg base 4 "_law_mended" sp_l_mended := mk_def F_l_mended g_l_mended (FunD.bindsN F_l_mended fun _ _ _ _ _ _ us hl => match us, hl with | [_], _ => rfl) sc_l_mended len_l_mended (Cals.cons (d_l_unset.mono (by decide)) (Cals.cons (d_l_worths_for.mono (by decide)) (Cals.cons (d_l_sets.mono (by decide)) (Cals.cons (d_l_all_names.mono (by decide)) (Cals.cons (d_l_unset_blocks.mono (by decide)) Cals.nil))))) Glbs.nil (by simp [b_l_mended, z_len]) ch_l_mended body_l_mended.g
  have d_l_wild_program : DefOk P w K mg base 4 "_law_wild_program" sp_l_wild_program := mk_def F_l_wild_program g_l_wild_program (FunD.bindsN F_l_wild_program fun _ _ _ _ _ _ us hl => match us, hl with | [_], _ => rfl) sc_l_wild_program len_l_wild_program (Cals.cons (d_l_exit.mono (by decide)) (Cals.cons (d_l_some_row.mono (by decide)) (Cals.cons (d_l_draw.mono (by decide)) (Cals.cons (d_l_names.mono (by decide)) Cals.nil)))) Glbs.nil (by simp [b_l_wild_program, z_tuple, z_range, z_int, z_min, z_len]) ch_l_wild_program body_l_wild_program.g
  have d_l_program : DefOk P w K mg base 5 "_law_program" sp_l_program := mk_def F_l_program g_l_program (FunD.bindsN F_l_program fun _ _ _ _ _ _ us hl => match us, hl with | [_], _ => rfl) sc_l_program len_l_program (Cals.cons (d_l_mended.mono (by decide)) (Cals.cons (d_l_wild_program.mono (by decide)) Cals.nil)) Glbs.nil (by simp [b_l_program]) ch_l_program body_l_program.g
  have f_p_PlainRun_go_through : FnOk P w K mg base (L2.CX P w) 5 _ fd_p_PlainRun_go_through _ (liftSp K (sp_p_PlainRun_go_through (He.ga K "PlainRun"))) := mk_fnX (F := [(sp_p_PlainRun_worth_of (He.ga K "PlainRun")), (sp_p_PlainRun_do_row (He.ga K "PlainRun"))]) (Gm := [.ref (He.ga K "PlainRun")]) F_p_PlainRun_go_through sc_p_PlainRun_go_through len_p_PlainRun_go_through (CalX.skip (by decide +kernel) (CalX.skip (by decide +kernel) CalX.nil)) (ClsX.t (ClsX.yes kc_PlainRun (FldX.no (by decide +kernel) (FldX.yes (f0 := "program") (by decide +kernel) na_PlainRun_program FldX.nil)) (MetX.yes (m0 := "worth_of") (by decide +kernel) (m_p_PlainRun_worth_of.mono (by decide)) (fun e => absurd e (by decide +kernel)) (MetX.yes (m0 := "do_row") (by decide +kernel) (m_p_PlainRun_do_row.mono (by decide)) (fun e => absurd e (by decide +kernel)) MetX.nil)) ClsX.nil)) (Glbs.cons (glb_ref gc_PlainRun) Glbs.nil) (by simp [b_p_PlainRun_go_through, z_int, z_PlainRun_program]) ch_p_PlainRun_go_through body_p_PlainRun_go_through.g
  have m_p_PlainRun_go_through : MethOk P w K mg base 6 (He.ga K "PlainRun") "go_through" (sp_p_PlainRun_go_through (He.ga K "PlainRun")) := ⟨5, _, _, _, by decide, f_p_PlainRun_go_through, me_PlainRun_go_through, (FunD.bindsN F_p_PlainRun_go_through fun _ _ _ _ _ _ us hl => match us, hl with | [_, _], _ => rfl)⟩
  have d_p_plain_run : DefOk P w K mg base 7 "plain_run" sp_p_plain_run := mk_defX (F := [(sp_p_PlainRun_go_through (He.ga K "PlainRun")), (sp_p_PlainRun___init__ (He.ga K "PlainRun"))]) (Gm := [.ref (He.ga K "PlainRun")]) F_p_plain_run g_p_plain_run (FunD.bindsN F_p_plain_run fun _ _ _ _ _ _ us hl => match us, hl with | [_, _, _], _ => rfl) sc_p_plain_run len_p_plain_run (CalX.skip (by decide +kernel) (CalX.skip (by decide +kernel) CalX.nil)) (ClsX.t (ClsX.yes kc_PlainRun (FldX.no (by decide +kernel) (FldX.yes (f0 := "said") (by decide +kernel) na_PlainRun_said (FldX.no (by decide +kernel) FldX.nil))) (MetX.yes (m0 := "go_through") (by decide +kernel) (m_p_PlainRun_go_through.mono (by decide)) (fun e => absurd e (by decide +kernel)) (MetX.yes (m0 := "__init__") (by decide +kernel) (m_p_PlainRun___init__.mono (by decide)) (fun _ => k_p_PlainRun___init__.mono (by decide)) MetX.nil)) ClsX.nil)) (Glbs.cons (glb_ref gc_PlainRun) Glbs.nil) (by simp [b_p_plain_run, z_tuple, z_PlainRun_said, z_len]) ch_p_plain_run body_p_plain_run.g
  exact mk_fn F_law sc_law len_law (Cals.cons (d_l_led.mono (by decide)) (Cals.cons (d_l_block_told.mono (by decide)) (Cals.cons (d_p_plain_run.mono (by decide)) (Cals.cons (d_l_draw.mono (by decide)) (Cals.cons (d_l_program.mono (by decide)) (Cals.cons (d_l_pen.mono (by decide)) Cals.nil)))))) Glbs.nil (by simp [b_law, z_range, z_int, z_len, z_tuple]) ch_law body_law.g
end K48
open PySem PySem.W PySem.Calls PyProof.Rows
set_option maxHeartbeats 0 in
theorem PySem.Challenge.cw_movebeats_k48_whole_plain_runs_go_on_holds : PySem.Challenge.rw_movebeats_k48_whole_plain_runs_go_on.Holds := by
  w_on; o_law
  refine HandSHeadRun.head_any (r := OpenLaw.row PySem.Challenge.rw_movebeats_k48_whole_plain_runs_go_on) (q := view (OpenLaw.row PySem.Challenge.rw_movebeats_k48_whole_plain_runs_go_on).prog [26]) (H := K48.hk) (ob := K48.ob) (M := 2000) (loose := K48.loose) (d := HandSHeadRun.topDef (OpenLaw.row PySem.Challenge.rw_movebeats_k48_whole_plain_runs_go_on).prog 26) (kwd := []) K48.ob_eq
    (by kernel_rfl) (fun s => by kernel_rfl) K48.run (by kernel_rfl) (by kernel_rfl) (by kernel_rfl) (by rfl) (by first | assumption | decide +kernel) (by decide +kernel) ⟨rfl, rfl, rfl, rfl, rfl, by decide +kernel⟩ ?hw ?hc
  case hw => w_witness2
  case hc =>
    refine DL.walk_end (l := PySem.Challenge.rw_movebeats_k48_whole_plain_runs_go_on) (n := 63) (k := 8) (x := "_law_script") rfl (by decide) (by kernel_rfl) ⟨rfl, by decide, by decide⟩ ?F
    intro w mg fa h Y G hmg0
    obtain ⟨K, KX, c⟩ := Y
    have hmg : mg ("law" : PySem.Str) = some (.ref fa) := by
      have e : (HandSHeadRun.topDef (OpenLaw.row PySem.Challenge.rw_movebeats_k48_whole_plain_runs_go_on).prog 26).name = ("law" : PySem.Str) := by kernel_rfl
      rw [← e]
      exact hmg0
    obtain ⟨fd, hb, hF⟩ := K48.facts (P := (PySem.Challenge.rw_movebeats_k48_whole_plain_runs_go_on).prog) (w := w) KX G hmg c
    exact ⟨K, fd, KX, hb, hF⟩

